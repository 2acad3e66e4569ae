import PyProof.Rows.All
import HandS.ForMost
import HandS.IsInst
import HandS.SortInts
import HandS.SortRule
import HandS.TupAny
import HandS.TupMul
import HandS.Zip
import HandS.Deep
import HandS.Wide
import HandS.SetFor
import HandS.Conv
import HandS.Style
import HandS.Dict
import HandS.Iter
import HandS.Walk
import HandS.Strs
import HandS.TupLe
import PyProof.SetRoads
import HandS.WordsExc
import HandS.ExcOwn
import HandS.ExcIs
import HandS.TryOnly
import KE.GoesMore
import HandS.Text
import KE.DataFind
import KE.GoesRaise
import HandS.Codes
import PySem.Challenge.RW_twighall_k03_whole_read
set_option Elab.async false
set_option linter.all false
set_option maxRecDepth 100000
set_option maxHeartbeats 4000000
/-! A pure reading: data, frozen heap parts, slots; expressions as partial functions of the slots. -/
namespace Tw
open PySem PySem.Spec PyProof.Rows L2

abbrev D := PyData
abbrev Rho := List (Option D)
abbrev Ex := Rho → Option D
/-- the longest list that is spoken of -/
abbrev LIM : Nat := 1000000
theorem lim_le : LIM ≤ sizeLine := by decide
theorem lim_lt : LIM < sizeLine := by decide

/-- a pair of a dict of ints -/
abbrev kvV (p : Int × Int) : Key × V := (.inl p.1, .int p.2)
abbrev kvD (p : Int × Int) : D × D := (.int p.1, .int p.2)
mutual
/-- v stands for the datum d; all that it leads to lies in F -/
inductive Rp (K : PySem.W.Frag) (F : Hp) : V → D → Prop
  | non : Rp K F .non .none
  | bl (b : Bool) : Rp K F (.bl b) (.bool b)
  | int (i : Int) : Rp K F (.int i) (.int i)
  | str (x : Str) : Rp K F (.str x) (.str x)
  | lst {a : Addr} {vs : List V} {ds : List D} : F a = some (.lst vs) → vs.length ≤ LIM → RpAll K F vs ds → Rp K F (.ref a) (.list ds)
  | tup {a : Addr} {vs : List V} {ds : List D} : F a = some (.tup vs) → vs.length ≤ LIM → RpAll K F vs ds → Rp K F (.ref a) (.tuple ds)
  | scr {a : Addr} {ns : List Int} : SqL K F a (ns.map V.int) → Rp K F (.ref a) (.dict [(.none, .list (ns.map .int))])
  | exc (a : Addr) : Rp K F (.ref a) (.dict [(.bool true, .int (a : Nat))])
  | dk {a : Addr} {od : Obj} {i j : Int} {r : List (Int × Int)} {t : List (D × D)} : F a = some (.frz od (.dK (((i, j) :: r).map kvV))) → r.length ≤ LIM → t = r.map kvD → Rp K F (.ref a) (.dict ((.int i, .int j) :: t))
inductive RpAll (K : PySem.W.Frag) (F : Hp) : List V → List D → Prop
  | nil : RpAll K F [] []
  | cons {v : V} {vs : List V} {d : D} {ds : List D} : Rp K F v d → RpAll K F vs ds → RpAll K F (v :: vs) (d :: ds)
end

section
variable {K : PySem.W.Frag} {F F' : Hp}
mutual
theorem Rp.mono (h : Same F F') : ∀ {v : V} {d : D}, Rp K F v d → Rp K F' v d
  | _, _, .non => .non
  | _, _, .bl b => .bl b
  | _, _, .int i => .int i
  | _, _, .str x => .str x
  | _, _, .lst e l r => .lst (h _ _ e) l (RpAll.mono h r)
  | _, _, .tup e l r => .tup (h _ _ e) l (RpAll.mono h r)
  | _, _, .scr s => .scr (h.seq s)
  | _, _, .exc a => .exc a
  | _, _, .dk e l q => .dk (h _ _ e) l q
theorem RpAll.mono (h : Same F F') : ∀ {vs : List V} {ds : List D}, RpAll K F vs ds → RpAll K F' vs ds
  | _, _, .nil => .nil
  | _, _, .cons r t => .cons (Rp.mono h r) (RpAll.mono h t)
end
theorem RpAll.length : ∀ {vs : List V} {ds : List D}, RpAll K F vs ds → vs.length = ds.length
  | _, _, .nil => rfl
  | _, _, .cons _ t => by rw [List.length_cons, List.length_cons, RpAll.length t]
theorem RpAll.get : ∀ {vs : List V} {ds : List D} {i : Nat} {d : D}, RpAll K F vs ds → ds[i]? = some d → ∃ v, vs[i]? = some v ∧ Rp K F v d
  | _, _, _, _, .nil, e => by simp at e
  | _, _, 0, _, .cons r _, e => by simp at e; subst e; exact ⟨_, rfl, r⟩
  | _, _, i + 1, d, .cons _ t, e => by
    obtain ⟨v, h1, h2⟩ := RpAll.get (i := i) (d := d) t (by simpa using e)
    exact ⟨v, by simpa using h1, h2⟩
theorem RpAll.getV {vs : List V} {ds : List D} {i : Nat} {v : V} (r : RpAll K F vs ds) (e : vs[i]? = some v) : ∃ d, ds[i]? = some d ∧ Rp K F v d := by
  have hi : i < ds.length := by rw [← r.length]; exact (List.getElem?_eq_some_iff.mp e).1
  obtain ⟨w, h1, h2⟩ := r.get (List.getElem?_eq_getElem hi)
  rw [e] at h1
  cases h1
  exact ⟨_, List.getElem?_eq_getElem hi, h2⟩
theorem RpAll.append : ∀ {vs ws : List V} {ds es : List D}, RpAll K F vs ds → RpAll K F ws es → RpAll K F (vs ++ ws) (ds ++ es)
  | _, _, _, _, .nil, s => s
  | _, _, _, _, .cons r t, s => .cons r (RpAll.append t s)
theorem RpAll.take : ∀ {vs : List V} {ds : List D} (n : Nat), RpAll K F vs ds → RpAll K F (vs.take n) (ds.take n)
  | _, _, 0, _ => .nil
  | _, _, _ + 1, .nil => .nil
  | _, _, n + 1, .cons r t => .cons r (RpAll.take n t)
theorem RpAll.drop : ∀ {vs : List V} {ds : List D} (n : Nat), RpAll K F vs ds → RpAll K F (vs.drop n) (ds.drop n)
  | _, _, 0, r => r
  | _, _, _ + 1, .nil => .nil
  | _, _, n + 1, .cons _ t => RpAll.drop n t
theorem RpAll.reverse {vs : List V} {ds : List D} (r : RpAll K F vs ds) : RpAll K F vs.reverse ds.reverse := by
  induction ds generalizing vs with
  | nil => cases r; exact .nil
  | cons d ds ih =>
    cases r with
    | cons a t =>
      rw [List.reverse_cons, List.reverse_cons]
      exact (ih t).append (.cons a .nil)
theorem RpAll.set {v : V} {d : D} (h : Rp K F v d) : ∀ {vs : List V} {ds : List D} (i : Nat), RpAll K F vs ds → RpAll K F (vs.set i v) (ds.set i d)
  | _, _, _, .nil => .nil
  | _, _, 0, .cons _ t => .cons h t
  | _, _, i + 1, .cons r t => .cons r (RpAll.set h i t)
theorem RpAll.flat {vs : List V} {ds : List D} (r : RpAll K F vs ds) : ∀ n : Nat, RpAll K F (List.replicate n vs).flatten (List.replicate n ds).flatten
  | 0 => .nil
  | n + 1 => by
    rw [List.replicate_succ, List.replicate_succ, List.flatten_cons, List.flatten_cons]
    exact r.append (RpAll.flat r n)
/-- ints alone -/
theorem RpAll.ints : ∀ {vs : List V} {ns : List Int}, RpAll K F vs (ns.map PyData.int) → vs = ns.map V.int
  | _, [], .nil => rfl
  | _, n :: ns, .cons r t => by
    cases r
    rw [List.map_cons, RpAll.ints t]
theorem RpAll.bools : ∀ {vs : List V} {ns : List Bool}, RpAll K F vs (ns.map PyData.bool) → vs = ns.map V.bl
  | _, [], .nil => rfl
  | _, n :: ns, .cons r t => by
    cases r
    rw [List.map_cons, RpAll.bools t]
theorem RpAll.strs : ∀ {vs : List V} {ns : List Str}, RpAll K F vs (ns.map PyData.str) → vs = ns.map V.str
  | _, [], .nil => rfl
  | _, n :: ns, .cons r t => by
    cases r
    rw [List.map_cons, RpAll.strs t]
theorem RpAll.ofInts : ∀ ns : List Int, RpAll K F (ns.map V.int) (ns.map PyData.int)
  | [] => .nil
  | n :: ns => .cons (.int n) (RpAll.ofInts ns)
theorem RpAll.ofStrs : ∀ ns : List Str, RpAll K F (ns.map V.str) (ns.map PyData.str)
  | [] => .nil
  | n :: ns => .cons (.str n) (RpAll.ofStrs ns)
end

/-! ### the data that may be compared -/
section
variable {K : PySem.W.Frag} {F H : Hp}
mutual
theorem Rp.dp (hs : Same F H) : ∀ {d : D} {v : V}, Rp K F v d → d.canLay0 = true → Dp K H v d
  | _, _, .non, _ => .non
  | _, _, .bl b, _ => .bl b
  | _, _, .int i, _ => .int i
  | _, _, .str x, _ => .str x
  | _, _, .lst (ds := ds) e l r, h => .lst (.of (hs _ _ e)) (RpAll.dp hs r (by simpa only [PyData.canLay0] using h))
  | _, _, .tup (ds := ds) e l r, h => .tup (.of (hs _ _ e)) (RpAll.dp hs r (by simpa only [PyData.canLay0] using h))
  | _, _, .scr s, h => by simp only [PyData.canLay0] at h; exact absurd h (by simp)
  | _, _, .exc _, h => by simp only [PyData.canLay0] at h; exact absurd h (by simp)
  | _, _, .dk _ _ _, h => by simp only [PyData.canLay0] at h; exact absurd h (by simp)
theorem RpAll.dp (hs : Same F H) : ∀ {ds : List D} {vs : List V}, RpAll K F vs ds → PyData.canLayAll0 ds = true → DpAll K H vs ds
  | _, _, .nil, _ => .nil
  | _, _, .cons (d := d) (ds := ds) r t, h => by
    simp only [PyData.canLayAll0, Bool.and_eq_true] at h
    exact .cons (Rp.dp hs r h.1) (RpAll.dp hs t h.2)
end
end

/-! ### heaps that grow -/
/-- nothing that stood is changed, nothing that stood is newly frozen -/
structure Grow (F H F' H' : Hp) : Prop where
  hh : Same H H'
  ff : Same F F'
  fh : Same F' H'
  nf : ∀ a o, H a = some o → F' a = F a
theorem Grow.refl {F H : Hp} (h : Same F H) : Grow F H F H := ⟨.refl _, .refl _, h, fun _ _ _ => rfl⟩
theorem Grow.trans {F H F1 H1 F2 H2 : Hp} (a : Grow F H F1 H1) (b : Grow F1 H1 F2 H2) : Grow F H F2 H2 :=
  ⟨a.hh.trans b.hh, a.ff.trans b.ff, b.fh, fun c o e => (b.nf c o (a.hh c o e)).trans (a.nf c o e)⟩
theorem same_upd {H : Hp} {p : Addr} {o : HO} (h : H p = none) : Same H (upd H p o) := fun b x e => by
  rw [upd_ne (ne_of_none e h)]
  exact e
/-- a new object, frozen at once -/
theorem Grow.new {F H : Hp} {p : Addr} {o : HO} (fh : Same F H) (h : H p = none) : Grow F H (upd F p o) (upd H p o) := by
  have hf : F p = none := by
    cases e : F p with
    | none => rfl
    | some x => rw [fh _ _ e] at h; cases h
  refine ⟨same_upd h, same_upd hf, fun b x e => ?_, fun a x e => upd_ne (ne_of_none e h)⟩
  by_cases hb : b = p
  · subst hb
    rw [upd_same] at e ⊢
    exact e
  · rw [upd_ne hb] at e ⊢
    exact fh _ _ e
/-- a new object, kept for oneself -/
theorem Grow.own {F H : Hp} {p : Addr} {o : HO} (fh : Same F H) (h : H p = none) : Grow F H F (upd H p o) :=
  ⟨same_upd h, .refl _, fh.trans (same_upd h), fun _ _ _ => rfl⟩

/-! ### what is one's own -/
/-- the list or the dict of ints at a -/
inductive Held (K : PySem.W.Frag) (F H : Hp) (a : Addr) : D → Prop
  | lst {vs : List V} {ds : List D} : H a = some (.lst vs) → vs.length ≤ LIM → RpAll K F vs ds → Held K F H a (.list ds)
  | dic {i j : Int} {r : List (Int × Int)} {t : List (D × D)} : H a = some (.dK (((i, j) :: r).map kvV)) → r.length ≤ LIM → t = r.map kvD → Held K F H a (.dict ((.int i, .int j) :: t))
theorem Held.at {K : PySem.W.Frag} {F H : Hp} {a : Addr} {d : D} (h : Held K F H a d) : ∃ o, H a = some o := by
  cases h with
  | lst e _ _ => exact ⟨_, e⟩
  | dic e _ _ => exact ⟨_, e⟩
theorem Held.move {K : PySem.W.Frag} {F F' H H' : Hp} {a : Addr} {d : D} (h : Held K F H a d) (hh : ∀ o, H a = some o → H' a = some o) (ff : Same F F') : Held K F' H' a d := by
  cases h with
  | lst e l r => exact .lst (hh _ e) l (r.mono ff)
  | dic e l q => exact .dic (hh _ e) l q
/-! ### the slots -/
structure RE (K : PySem.W.Frag) (B F0 : Hp) (own : Nat → Bool) (ρ : Rho) (σ : L2.St) (F H : Hp) : Prop where
  fh : Same F H
  bh : Same B H
  ff : Same F0 F
  nf : ∀ a o, B a = some o → F a = F0 a
  len : ρ.length = σ.length
  get : ∀ (i : Nat) (d : D), ρ[i]? = some (some d) → own i = false → ∃ v, σ[i]? = some (some v) ∧ Rp K F v d
  mine : ∀ (i : Nat) (d : D), ρ[i]? = some (some d) → own i = true → ∃ a, σ[i]? = some (some (.ref a)) ∧ F a = none ∧ B a = none ∧ Held K F H a d
  apart : ∀ (i j : Nat) (d e : D) (a : Addr), ρ[i]? = some (some d) → ρ[j]? = some (some e) → own i = true → own j = true → σ[i]? = some (some (.ref a)) → σ[j]? = some (some (.ref a)) → i = j
section
variable {K : PySem.W.Frag} {B F0 : Hp} {own : Nat → Bool} {ρ : Rho} {σ : L2.St} {F H F' H' : Hp}
theorem RE.grow (r : RE K B F0 own ρ σ F H) (g : Grow F H F' H') : RE K B F0 own ρ σ F' H' := by
  refine ⟨g.fh, r.bh.trans g.hh, r.ff.trans g.ff, fun a o e => (g.nf a o (r.bh a o e)).trans (r.nf a o e), r.len, fun i d e ho => ?_, fun i d e ho => ?_, r.apart⟩
  · obtain ⟨v, h1, h2⟩ := r.get i d e ho
    exact ⟨v, h1, h2.mono g.ff⟩
  · obtain ⟨a, h2, h4, h5, hd⟩ := r.mine i d e ho
    obtain ⟨o, h3⟩ := hd.at
    exact ⟨a, h2, (g.nf _ _ h3).trans h4, h5, hd.move (fun o e => g.hh _ _ e) g.ff⟩
theorem RE.mineL (r : RE K B F0 own ρ σ F H) {i : Nat} {es : List D} (e : ρ[i]? = some (some (.list es))) (ho : own i = true) : ∃ a vs ds, PyData.list es = .list ds ∧ σ[i]? = some (some (.ref a)) ∧ H a = some (.lst vs) ∧ F a = none ∧ B a = none ∧ vs.length ≤ LIM ∧ RpAll K F vs ds := by
  obtain ⟨a, h2, h4, h5, hd⟩ := r.mine i _ e ho
  cases hd with
  | lst h3 h6 h7 => exact ⟨a, _, _, rfl, h2, h3, h4, h5, h6, h7⟩
end

/-- borrowed: frozen, or a list of one's own with frozen items, or a dict of one's own -/
def Br (K : PySem.W.Frag) (F H : Hp) (v : V) (d : D) : Prop := Rp K F v d ∨ ∃ a, v = .ref a ∧ Held K F H a d
/-- lists, dicts of ints -/
def ldD : D → Bool
  | .list _ => true
  | .dict ((.int _, .int _) :: _) => true
  | _ => false
theorem Br.grow {K : PySem.W.Frag} {F H F' H' : Hp} {v : V} {d : D} (h : Br K F H v d) (g : Grow F H F' H') : Br K F' H' v d := by
  rcases h with h | ⟨a, h1, h2⟩
  · exact .inl (h.mono g.ff)
  · exact .inr ⟨a, h1, h2.move (fun o e => g.hh _ _ e) g.ff⟩
/-- what a list or tuple that may be read is -/
theorem Br.lst {K : PySem.W.Frag} {F H : Hp} {v : V} {ds : List D} (fh : Same F H) (h : Br K F H v (.list ds)) : ∃ a vs, v = .ref a ∧ H a = some (.lst vs) ∧ vs.length ≤ LIM ∧ RpAll K F vs ds := by
  rcases h with h | ⟨a, h1, h2⟩
  · cases h with
    | lst e l r => exact ⟨_, _, rfl, fh _ _ e, l, r⟩
  · cases h2 with
    | lst h3 h4 h5 => exact ⟨a, _, h1, h3, h4, h5⟩
theorem Br.tup {K : PySem.W.Frag} {F H : Hp} {v : V} {ds : List D} (fh : Same F H) (h : Br K F H v (.tuple ds)) : ∃ a vs, v = .ref a ∧ F a = some (.tup vs) ∧ H a = some (.tup vs) ∧ vs.length ≤ LIM ∧ RpAll K F vs ds := by
  rcases h with h | ⟨a, h1, h2⟩
  · cases h with
    | tup e l r => exact ⟨_, _, rfl, e, fh _ _ e, l, r⟩
  · cases h2
/-- a dict of ints, its own or frozen -/
theorem Br.dic {K : PySem.W.Frag} {F H : Hp} {v : V} {i j : Int} {t : List (D × D)} (fh : Same F H) (h : Br K F H v (.dict ((.int i, .int j) :: t))) : ∃ (a : Addr) (r : List (Int × Int)), v = .ref a ∧ Rd H a (.dK (((i, j) :: r).map kvV)) ∧ r.length ≤ LIM ∧ t = r.map kvD := by
  rcases h with h | ⟨a, h1, h2⟩
  · cases h with
    | dk e l q => exact ⟨_, _, rfl, .inr ⟨_, fh _ _ e⟩, l, q⟩
  · cases h2 with
    | dic e l q => exact ⟨a, _, h1, .inl e, l, q⟩
theorem Br.flat {K : PySem.W.Frag} {F H : Hp} {v : V} {d : D} (h : Br K F H v d) (hd : ldD d = false) : Rp K F v d := by
  rcases h with h | ⟨a, h1, h2⟩
  · exact h
  · cases h2 <;> cases hd
theorem Br.int {K : PySem.W.Frag} {F H : Hp} {v : V} {i : Int} (h : Br K F H v (.int i)) : v = .int i := by
  have h := h.flat rfl
  cases h
  rfl
theorem Br.bl {K : PySem.W.Frag} {F H : Hp} {v : V} {i : Bool} (h : Br K F H v (.bool i)) : v = .bl i := by
  have h := h.flat rfl
  cases h
  rfl
theorem Br.str {K : PySem.W.Frag} {F H : Hp} {v : V} {i : Str} (h : Br K F H v (.str i)) : v = .str i := by
  have h := h.flat rfl
  cases h
  rfl
theorem Br.non {K : PySem.W.Frag} {F H : Hp} {v : V} (h : Br K F H v .none) : v = .non := by
  have h := h.flat rfl
  cases h
  rfl
theorem Br.dp {K : PySem.W.Frag} {F H : Hp} {v : V} {d : D} (fh : Same F H) (h : Br K F H v d) (c : d.canLay0 = true) : Dp K H v d := by
  rcases h with h | ⟨a, h1, h2⟩
  · exact h.dp fh c
  · subst h1
    cases h2 with
    | lst h3 h4 h5 => exact .lst (.of h3) (h5.dp fh (by simpa only [PyData.canLay0] using c))
    | dic e l q => simp only [PyData.canLay0] at c; exact absurd c (by simp)

/-! ### readings of pure functions -/
/-- how a result is held -/
inductive Kd where
  /-- frozen; borrowed; a new list of one's own -/
  | fz | br | nw
def Kd.rel (k : Kd) (K : PySem.W.Frag) (F H0 H : Hp) (v : V) (d : D) : Prop := match k with
  | .fz => Rp K F v d
  | .br => Br K F H v d
  | .nw => ∃ a vs ds, v = .ref a ∧ d = .list ds ∧ H0 a = none ∧ F a = none ∧ H a = some (.lst vs) ∧ vs.length ≤ LIM ∧ RpAll K F vs ds
theorem Kd.early {k : Kd} {K : PySem.W.Frag} {F H0 H1 H : Hp} {v : V} {d : D} (s : Same H0 H1) (h : k.rel K F H1 H v d) : k.rel K F H0 H v d := by
  cases k with
  | fz => exact h
  | br => exact h
  | nw =>
    obtain ⟨a, vs, ds, h1, h2, h3, h4⟩ := h
    exact ⟨a, vs, ds, h1, h2, s.free h3, h4⟩
/-- the reading: f gives a datum, and any value that bears it (as k says) is wanted -/
def tK (k : Kd) (K : PySem.W.Frag) (own : Nat → Bool) (f : Ex) : TE := fun σ H Q => ∃ B F0 ρ F, RE K B F0 own ρ σ F H ∧ ∃ d, f ρ = some d ∧ ∀ v F' H', Grow F H F' H' → k.rel K F' H H' v d → Q v H'
abbrev tF := tK .fz
abbrev tB := tK .br
abbrev tN := tK .nw
/-- a test -/
def tT (K : PySem.W.Frag) (own : Nat → Bool) (f : Ex) : TT := fun σ H Q => ∃ B F0 ρ F, RE K B F0 own ρ σ F H ∧ ∃ b, f ρ = some (.bool b) ∧ ∀ F' H', Grow F H F' H' → Q b H'
/-- arguments -/
def tA (K : PySem.W.Frag) (own : Nat → Bool) (f : Rho → Option (List D)) : TA := fun σ H Q => ∃ B F0 ρ F, RE K B F0 own ρ σ F H ∧ ∃ ds, f ρ = some ds ∧ ∀ vs F' H', Grow F H F' H' → RpAll K F' vs ds → Q vs H'
/-- arguments that are borrowed -/
inductive BrAll (K : PySem.W.Frag) (F H : Hp) : List V → List D → Prop
  | nil : BrAll K F H [] []
  | cons {v : V} {vs : List V} {d : D} {ds : List D} : Br K F H v d → BrAll K F H vs ds → BrAll K F H (v :: vs) (d :: ds)
def tAB (K : PySem.W.Frag) (own : Nat → Bool) (f : Rho → Option (List D)) : TA := fun σ H Q => ∃ B F0 ρ F, RE K B F0 own ρ σ F H ∧ ∃ ds, f ρ = some ds ∧ ∀ vs F' H', Grow F H F' H' → BrAll K F' H' vs ds → Q vs H'

section
variable {X : Cx} {own : Nat → Bool} {e : Expr} {f : Ex} {t t' : TE}
theorem pe_weak (h : PE X e t) (w : ∀ σ H Q, t' σ H Q → t σ H Q) : PE X e t' := ⟨fun pins s σ H Q I q => h.run pins s σ H Q I (w _ _ _ q)⟩
theorem pt_weak {t t' : TT} (h : PT X e t) (w : ∀ σ H Q, t' σ H Q → t σ H Q) : PT X e t' := ⟨fun pins s σ H Q I q => h.run pins s σ H Q I (w _ _ _ q)⟩
theorem pw_weak {t t' : TT} (h : PW X e t) (w : ∀ σ H Q, t' σ H Q → t σ H Q) : PW X e t' := ⟨fun wh pins s σ H Q I q => h.run wh pins s σ H Q I (w _ _ _ q)⟩
theorem pa_weak {es : List Expr} {t t' : TA} (h : PA X es t) (w : ∀ σ H Q, t' σ H Q → t σ H Q) : PA X es t' := ⟨fun pos pins s σ H Q I q => h.run pos pins s σ H Q I (w _ _ _ q)⟩
theorem ps_weak {st : Stmt} {t t' : TS} (h : PS X st t) (w : ∀ D σ H, t' D σ H → t D σ H) : PS X st t' := ⟨fun pins s σ H D I q => h.run pins s σ H D I (w _ _ _ q)⟩
theorem pss_weak {st : List Stmt} {t t' : TS} (h : PSs X st t) (w : ∀ D σ H, t' D σ H → t D σ H) : PSs X st t' := ⟨fun pins s σ H D I q => h.run pins s σ H D I (w _ _ _ q)⟩
/-- frozen is borrowed -/
theorem xb (h : PE X e (tF X.K own f)) : PE X e (tB X.K own f) :=
  pe_weak h fun σ H Q ⟨B, F0, ρ, F, r, d, e, q⟩ => ⟨B, F0, ρ, F, r, d, e, fun v F' H' g a => q v F' H' g (.inl a)⟩
/-- what is new may be frozen -/
theorem xn (h : PE X e (tN X.K own f)) : PE X e (tF X.K own f) := by
  refine pe_weak h fun σ H Q ⟨B, F0, ρ, F, r, d, e, q⟩ => ⟨B, F0, ρ, F, r, d, e, ?_⟩
  rintro v F' H' g ⟨a, vs, ds, rfl, rfl, h0, hf, hh, hl, ra⟩
  have s1 : Same F' (upd F' a (.lst vs)) := same_upd hf
  refine q _ (upd F' a (.lst vs)) H' ⟨g.hh, g.ff.trans s1, fun b o e => ?_, fun b o e => ?_⟩ (.lst upd_same hl (ra.mono s1))
  · by_cases hb : b = a
    · subst hb
      rw [upd_same] at e
      rw [hh]
      exact e
    · rw [upd_ne hb] at e
      exact g.fh _ _ e
  · rw [upd_ne (ne_of_none e h0)]
    exact g.nf _ _ e
end
end Tw

set_option Elab.async false
set_option linter.all false
set_option maxRecDepth 100000
set_option maxHeartbeats 4000000
namespace Tw
open PySem PySem.Spec PyProof.Rows L2

/-! ### pure functions of data -/
def xVar (i : Nat) : Ex := fun ρ => match ρ[i]? with
  | some (some d) => some d
  | _ => none
def xC (d : D) : Ex := fun _ => some d
def x1 (g : D → Option D) (f : Ex) : Ex := fun ρ => (f ρ).bind g
def x2 (g : D → D → Option D) (fa fb : Ex) : Ex := fun ρ => (fa ρ).bind fun x => (fb ρ).bind fun y => g x y
def dAdd : D → D → Option D
  | .int a, .int b => some (.int (a + b))
  | .list a, .list b => if a.length + b.length ≤ LIM then some (.list (a ++ b)) else none
  | .tuple a, .tuple b => if a.length + b.length ≤ LIM then some (.tuple (a ++ b)) else none
  | .str a, .str b => if a.length + b.length ≤ LIM then some (.str (a ++ b)) else none
  | _, _ => none
def dSub : D → D → Option D
  | .int a, .int b => some (.int (a - b))
  | _, _ => none
def dMul : D → D → Option D
  | .int i, .int j => if (-(2 ^ 64) < i ∧ i < 2 ^ 64) ∨ (-(2 ^ 64) < j ∧ j < 2 ^ 64) then some (.int (i * j)) else none
  | .tuple a, .int k => if a ≠ [] ∧ 2 ≤ k ∧ k ≤ 1000 ∧ a.length ≤ 1000 then some (.tuple (List.replicate k.toNat a).flatten) else none
  | .list a, .int k => if 0 ≤ k ∧ k ≤ 1000 ∧ a.length ≤ 1000 then some (.list (List.replicate k.toNat a).flatten) else none
  | _, _ => none
def dDiv : D → D → Option D
  | .int i, .int j => if 0 < j ∧ j < 1073741824 then some (.int (i / j)) else none
  | _, _ => none
def dMod : D → D → Option D
  | .int i, .int j => if 0 < j then some (.int (i % j)) else none
  | _, _ => none
def dPow : D → D → Option D
  | .int i, .int j => if 0 ≤ j ∧ j ≤ 1000 ∧ i.natAbs < 2 ^ 64 then some (.int (i ^ j.toNat)) else none
  | _, _ => none
def dNeg : D → Option D
  | .int i => some (.int (-i))
  | _ => none
def dNot : D → Option D
  | .bool b => some (.bool (!b))
  | _ => none
def dEq (x y : D) : Option D := if SeqAt.shaped x = true ∧ SeqAt.shaped y = true then some (.bool (PyData.eqv x y)) else none
def dNe (x y : D) : Option D := if SeqAt.shaped x = true ∧ SeqAt.shaped y = true then some (.bool (!PyData.eqv x y)) else none
def intsOf : List D → Option (List Int)
  | [] => some []
  | .int i :: r => (intsOf r).map (i :: ·)
  | _ :: _ => none
def dLt : D → D → Option D
  | .int i, .int j => some (.bool (decide (i < j)))
  | .tuple a, .tuple b => (intsOf a).bind fun ns => (intsOf b).bind fun ms => some (.bool (HT.lexLt ns ms))
  | _, _ => none
def dLe : D → D → Option D
  | .int i, .int j => some (.bool (decide (i ≤ j)))
  | _, _ => none
def dGt : D → D → Option D
  | .int i, .int j => some (.bool (decide (j < i)))
  | _, _ => none
def dGe : D → D → Option D
  | .int i, .int j => some (.bool (decide (j ≤ i)))
  | _, _ => none
def isNon : D → Bool
  | .none => true
  | _ => false
def flatD : D → Bool
  | .none => true
  | .bool _ => true
  | .int _ => true
  | .str _ => true
  | _ => false
def dIn (neg : Bool) (x : D) : D → Option D
  | .list ds => if SeqAt.shaped x = true ∧ SeqAt.shaped (.list ds) = true then some (.bool (xor neg (ds.any fun z => PyData.eqv z x))) else none
  | .tuple ds => if flatD x = true ∧ ds.all flatD = true then some (.bool (xor neg (ds.any fun z => PyData.eqv z x))) else none
  | _ => none
/-- sign in text -/
def dInS (neg : Bool) : D → D → Option D
  | .str ⟨cs⟩, .str z => match cs.toList with
    | [c] => some (.bool (xor neg (decide (c ∈ z.cps.toList))))
    | _ => none
  | _, _ => none
def dIsN (neg : Bool) (x : D) : Option D := some (.bool (xor neg (isNon x)))
def dIs (neg : Bool) (x y : D) : Option D := if isNon y then dIsN neg x else none
def xAnd (fa fb : Ex) : Ex := fun ρ => match fa ρ with
  | some (.bool true) => fb ρ
  | some (.bool false) => some (.bool false)
  | _ => none
def xOr (fa fb : Ex) : Ex := fun ρ => match fa ρ with
  | some (.bool true) => some (.bool true)
  | some (.bool false) => fb ρ
  | _ => none
/-- a op b op' c -/
def xChain (g g' : D → D → Option D) (fa fb fc : Ex) : Ex := fun ρ => (fa ρ).bind fun x => (fb ρ).bind fun y => match g x y with
  | some (.bool true) => (fc ρ).bind fun z => g' y z
  | some (.bool false) => some (.bool false)
  | _ => none
/-- isinstance -/
inductive Ty where
  | int | bool | tuple | str | list
  deriving DecidableEq
def Ty.nm : Ty → String
  | .int => "int"
  | .bool => "bool"
  | .tuple => "tuple"
  | .str => "str"
  | .list => "list"
def isTy (T : Ty) : D → Option Bool
  | .none => some false
  | .bool _ => some (match T with | .bool => true | .int => true | _ => false)
  | .int _ => some (match T with | .int => true | _ => false)
  | .str _ => some (match T with | .str => true | _ => false)
  | .list _ => some (match T with | .list => true | _ => false)
  | .tuple _ => some (match T with | .tuple => true | _ => false)
  | .dict _ => none
def dIsi (T : Ty) (x : D) : Option D := (isTy T x).map PyData.bool
def dLen : D → Option D
  | .list ds => some (.int ds.length)
  | .tuple ds => some (.int ds.length)
  | .str z => if z.length ≤ LIM then some (.int z.length) else none
  | .dict [(.none, .list ds)] => some (.int ds.length)
  | _ => none
def dIx : D → D → Option D
  | .list ds, .int i => atI ds i
  | .tuple ds, .int i => atI ds i
  | .str z, .int i => if z.length ≤ LIM then (atI z.cps.toList i).map fun c => .str ⟨#[c]⟩ else none
  | .dict [(.none, .list ds)], .int i => atI ds i
  | _, _ => none
def cutD (ds : List D) (lo hi : Option Int) : List D := (ds.drop (HT.sIx ds.length 0 lo)).take (HT.sIx ds.length ds.length hi - HT.sIx ds.length 0 lo)
def dSl : D → Option Int → Option Int → Option D
  | .list ds, lo, hi => some (.list (cutD ds lo hi))
  | .tuple ds, lo, hi => some (.tuple (cutD ds lo hi))
  | .str z, lo, hi => if z.length ≤ LIM then some (.str (cutS z lo hi)) else none
  | _, _, _ => none
def intOf : D → Option Int
  | .int i => some i
  | _ => none
def partOf (f : Option Ex) (ρ : Rho) : Option (Option Int) := match f with
  | none => some none
  | some e => ((e ρ).bind intOf).map some
def xSl (f : Ex) (lo hi : Option Ex) : Ex := fun ρ => (f ρ).bind fun x => (partOf lo ρ).bind fun l => (partOf hi ρ).bind fun h => dSl x l h
def dRev : D → Option D
  | .list ds => some (.list ds.reverse)
  | .tuple ds => some (.tuple ds.reverse)
  | _ => none
/-- arguments, displays -/
def xNil : Rho → Option (List D) := fun _ => some []
def xCons (f : Ex) (g : Rho → Option (List D)) : Rho → Option (List D) := fun ρ => (f ρ).bind fun d => (g ρ).bind fun ds => some (d :: ds)
def xLst (g : Rho → Option (List D)) : Ex := fun ρ => (g ρ).bind fun ds => if ds.length ≤ LIM then some (.list ds) else none
def xTup (g : Rho → Option (List D)) : Ex := fun ρ => (g ρ).bind fun ds => if ds.length ≤ LIM then some (.tuple ds) else none
def xCall (G : List D → Option D) (g : Rho → Option (List D)) : Ex := fun ρ => (g ρ).bind G
def on1 (g : D → Option D) : List D → Option D
  | [x] => g x
  | _ => none
abbrev g1 (fa : Ex) := xCons fa xNil
abbrev g2 (fa fb : Ex) := xCons fa (xCons fb xNil)
def dMin2 : List D → Option D
  | [.int i, .int j] => some (.int (if j < i then j else i))
  | _ => none
def dMax2 : List D → Option D
  | [.int i, .int j] => some (.int (if j > i then j else i))
  | _ => none
def dInt1 : D → Option D
  | .int i => some (.int i)
  | .bool b => some (.int (if b then 1 else 0))
  | _ => none
def dStr1 : D → Option D
  | .int i => if i.natAbs < 2 ^ 1000 then some (.str (Str.ofString (toString i))) else none
  | _ => none
def dListOf : D → Option D
  | .list ds => some (.list ds)
  | .tuple ds => some (.list ds)
  | _ => none
def dTupOf : D → Option D
  | .list ds => some (.tuple ds)
  | .tuple ds => some (.tuple ds)
  | _ => none
def boolsOf : List D → Option (List Bool)
  | [] => some []
  | .bool i :: r => (boolsOf r).map (i :: ·)
  | _ :: _ => none
def strsOf : List D → Option (List Str)
  | [] => some []
  | .str i :: r => (strsOf r).map (i :: ·)
  | _ :: _ => none
def dAll : D → Option D
  | .list ds => (boolsOf ds).map fun bs => .bool (bs.all id)
  | _ => none
def dAny : D → Option D
  | .list ds => (boolsOf ds).map fun bs => .bool (bs.any id)
  | _ => none
def dSum : D → Option D
  | .list ds => (intsOf ds).map fun ns => .int ns.sum
  | _ => none
def maxI : List Int → Int
  | [] => 0
  | [x] => x
  | x :: r => max x (maxI r)
def minI : List Int → Int
  | [] => 0
  | [x] => x
  | x :: r => min x (minI r)
def dMaxL : D → Option D
  | .list ds => (intsOf ds).bind fun ns => if ns = [] then none else some (.int (maxI ns))
  | _ => none
def dMinL : D → Option D
  | .list ds => (intsOf ds).bind fun ns => if ns = [] then none else some (.int (minI ns))
  | _ => none

theorem intsOf_some : ∀ {ds : List D} {ns : List Int}, intsOf ds = some ns → ds = ns.map PyData.int
  | [], ns, h => by cases h; rfl
  | d :: r, ns, h => by
    cases d <;> simp only [intsOf] at h <;> try cases h
    case int i =>
      cases e : intsOf r with
      | none => rw [e] at h; cases h
      | some ms =>
        rw [e] at h
        cases h
        rw [intsOf_some e]
        rfl
theorem intsOf_map : ∀ ns : List Int, intsOf (ns.map PyData.int) = some ns
  | [] => rfl
  | n :: r => by rw [List.map_cons, intsOf, intsOf_map r]; rfl
theorem boolsOf_some : ∀ {ds : List D} {ns : List Bool}, boolsOf ds = some ns → ds = ns.map PyData.bool
  | [], ns, h => by cases h; rfl
  | d :: r, ns, h => by
    cases d <;> simp only [boolsOf] at h <;> try cases h
    case bool i =>
      cases e : boolsOf r with
      | none => rw [e] at h; cases h
      | some ms =>
        rw [e] at h
        cases h
        rw [boolsOf_some e]
        rfl
theorem boolsOf_map : ∀ ns : List Bool, boolsOf (ns.map PyData.bool) = some ns
  | [] => rfl
  | n :: r => by rw [List.map_cons, boolsOf, boolsOf_map r]; rfl
theorem strsOf_some : ∀ {ds : List D} {ns : List Str}, strsOf ds = some ns → ds = ns.map PyData.str
  | [], ns, h => by cases h; rfl
  | d :: r, ns, h => by
    cases d <;> simp only [strsOf] at h <;> try cases h
    case str i =>
      cases e : strsOf r with
      | none => rw [e] at h; cases h
      | some ms =>
        rw [e] at h
        cases h
        rw [strsOf_some e]
        rfl
theorem strsOf_map : ∀ ns : List Str, strsOf (ns.map PyData.str) = some ns
  | [] => rfl
  | n :: r => by rw [List.map_cons, strsOf, strsOf_map r]; rfl
theorem maxI_mem : ∀ {ns : List Int}, ns ≠ [] → maxI ns ∈ ns
  | [], h => absurd rfl h
  | [x], _ => by simp [maxI]
  | x :: y :: r, _ => by
    have ih := maxI_mem (ns := y :: r) (by simp)
    show max x (maxI (y :: r)) ∈ _
    by_cases h : x ≤ maxI (y :: r)
    · rw [Int.max_def, if_pos h]; exact List.mem_cons_of_mem _ ih
    · rw [Int.max_def, if_neg h]; exact List.mem_cons_self
theorem maxI_le : ∀ {ns : List Int} {y : Int}, y ∈ ns → y ≤ maxI ns
  | [x], y, h => by simp at h; subst h; exact Int.le_refl _
  | x :: z :: r, y, h => by
    show y ≤ max x (maxI (z :: r))
    rcases List.mem_cons.mp h with rfl | h
    · omega
    · have := maxI_le h
      omega
theorem minI_mem : ∀ {ns : List Int}, ns ≠ [] → minI ns ∈ ns
  | [], h => absurd rfl h
  | [x], _ => by simp [minI]
  | x :: y :: r, _ => by
    have ih := minI_mem (ns := y :: r) (by simp)
    show min x (minI (y :: r)) ∈ _
    by_cases h : x ≤ minI (y :: r)
    · rw [Int.min_def, if_pos h]; exact List.mem_cons_self
    · rw [Int.min_def, if_neg h]; exact List.mem_cons_of_mem _ ih
theorem minI_le : ∀ {ns : List Int} {y : Int}, y ∈ ns → minI ns ≤ y
  | [x], y, h => by simp at h; subst h; exact Int.le_refl _
  | x :: z :: r, y, h => by
    show min x (minI (z :: r)) ≤ y
    rcases List.mem_cons.mp h with rfl | h
    · omega
    · have := minI_le h
      omega
end Tw

set_option Elab.async false
set_option linter.all false
set_option maxRecDepth 100000
set_option maxHeartbeats 4000000
namespace Tw
open PySem PySem.Spec PyProof.Rows L2

section
variable {X : Cx} {own : Nat → Bool}

/-! ### names, constants -/
theorem e_var (i : Nat) {x : Str} {pos : Pos} (ho : own i = false := by rfl) (hN : X.N[i]? = some x := by rfl) (hv : Vis X.env.scope x := by first | exact Or.inl rfl | exact Or.inr (Or.inl rfl) | exact Or.inr (Or.inr rfl))
    (hd : (x == ("__debug__" : Str)) = false := by decide) (hcd : (x == ("__classdict__" : Str)) = false := by decide) : PE X (.Name x pos) (tF X.K own (xVar i)) := by
  refine pe_weak (pe_var (i := i) hN hv hd hcd) ?_
  rintro σ H Q ⟨B, F0, ρ, F, r, d, e, q⟩
  have e2 : ρ[i]? = some (some d) := by
    unfold xVar at e
    split at e
    · next h => cases e; exact h
    · cases e
  obtain ⟨v, h1, h2⟩ := r.get i d e2 ho
  exact ⟨v, h1, q v F H (.refl r.fh) h2⟩
theorem e_varB (i : Nat) {x : Str} {pos : Pos} (hN : X.N[i]? = some x := by rfl) (hv : Vis X.env.scope x := by first | exact Or.inl rfl | exact Or.inr (Or.inl rfl) | exact Or.inr (Or.inr rfl))
    (hd : (x == ("__debug__" : Str)) = false := by decide) (hcd : (x == ("__classdict__" : Str)) = false := by decide) : PE X (.Name x pos) (tB X.K own (xVar i)) := by
  refine pe_weak (pe_var (i := i) hN hv hd hcd) ?_
  rintro σ H Q ⟨B, F0, ρ, F, r, d, e, q⟩
  have e2 : ρ[i]? = some (some d) := by
    unfold xVar at e
    split at e
    · next h => cases e; exact h
    · cases e
  cases ho : own i with
  | false =>
    obtain ⟨v, h1, h2⟩ := r.get i d e2 ho
    exact ⟨v, h1, q v F H (.refl r.fh) (.inl h2)⟩
  | true =>
    obtain ⟨a, h2, h4, h5, hd⟩ := r.mine i d e2 ho
    exact ⟨_, h2, q _ F H (.refl r.fh) (.inr ⟨a, rfl, hd⟩)⟩
theorem e_c {e : Expr} {v : V} {d : D} (h : PE X e (tC v)) (r : ∀ F, Rp X.K F v d) : PE X e (tF X.K own (xC d)) := by
  refine pe_weak h ?_
  rintro σ H Q ⟨B, F0, ρ, F, re, d', e, q⟩
  cases e
  exact q v F H (.refl re.fh) (r F)
theorem e_int {i : Int} {j pos} : PE X (.Constant (.int i) j pos) (tF X.K own (xC (.int i))) := e_c pe_int fun _ => .int i
theorem e_bl {b : Bool} {j pos} : PE X (.Constant (.bool b) j pos) (tF X.K own (xC (.bool b))) := e_c pe_bl fun _ => .bl b
theorem e_non {j pos} : PE X (.Constant .none j pos) (tF X.K own (xC .none)) := e_c pe_non fun _ => .non
theorem e_str {x : Str} {j pos} : PE X (.Constant (.str x) j pos) (tF X.K own (xC (.str x))) := e_c pe_str fun _ => .str x
/-- a module's int, text -/
theorem e_gint {x : Str} {i : Int} {t : Tok} {pos : Pos} (hm : X.mg x = some (.int i t)) (hg : Gl X x := by rfl) (hd : (x == ("__debug__" : Str)) = false := by decide) : PE X (.Name x pos) (tF X.K own (xC (.int i))) :=
  e_c (pe_glob hg hm (show RelV (.int i) (.int i t) from ⟨t, rfl⟩) hd) fun _ => .int i
theorem e_gstr {x : Str} {i : Str} {t : Tok} {pos : Pos} (hm : X.mg x = some (.str i t)) (hg : Gl X x := by rfl) (hd : (x == ("__debug__" : Str)) = false := by decide) : PE X (.Name x pos) (tF X.K own (xC (.str i))) :=
  e_c (pe_glob hg hm (show RelV (.str i) (.str i t) from ⟨t, rfl⟩) hd) fun _ => .str i

/-! ### operators -/
/-- a rule by values gives what g says -/
def OpOk (k : Kd) (K : PySem.W.Frag) (r : R2) (g : D → D → Option D) : Prop :=
  ∀ (F H : Hp) (x y : V) (dx dy d : D) (Q : VK), Same F H → Br K F H x dx → Br K F H y dy → g dx dy = some d → (∀ v F' H', Grow F H F' H' → k.rel K F' H H' v d → Q v H') → r x y H Q
theorem x2_some {g : D → D → Option D} {fa fb : Ex} {ρ : Rho} {d : D} (h : x2 g fa fb ρ = some d) : ∃ x y, fa ρ = some x ∧ fb ρ = some y ∧ g x y = some d := by
  unfold x2 at h
  cases ha : fa ρ with
  | none => rw [ha] at h; cases h
  | some x =>
    cases hb : fb ρ with
    | none => rw [ha, hb] at h; cases h
    | some y =>
      rw [ha, hb] at h
      exact ⟨x, y, rfl, rfl, h⟩
/-- two parts in a row -/
theorem two_parts {k : Kd} {r : R2} {g : D → D → Option D} {fa fb : Ex} (ok : OpOk k X.K r g) {σ : L2.St} {H : Hp} {Q : VK} (h : tK k X.K own (x2 g fa fb) σ H Q) : tOp r (tB X.K own fa) (tB X.K own fb) σ H Q := by
  obtain ⟨B, F0, ρ, F, re, d, e, q⟩ := h
  obtain ⟨dx, dy, ex, ey, eg⟩ := x2_some e
  refine ⟨B, F0, ρ, F, re, dx, ex, fun x F1 H1 g1 b1 => ⟨B, F0, ρ, F1, re.grow g1, dy, ey, fun y F2 H2 g2 b2 => ?_⟩⟩
  exact ok F2 H2 x y dx dy d Q g2.fh (Br.grow b1 g2) b2 eg fun v F3 H3 g3 c3 => q v F3 H3 ((g1.trans g2).trans g3) (Kd.early (g1.hh.trans g2.hh) c3)
theorem e_op {k : Kd} {op : Operator} {r : R2} {g : D → D → Option D} {a b : Expr} {fa fb : Ex} {pos : Pos} (ho : OpR X (binaryOp op) r) (ok : OpOk k X.K r g) (ha : PE X a (tB X.K own fa)) (hb : PE X b (tB X.K own fb)) :
    PE X (.BinOp a op b pos) (tK k X.K own (x2 g fa fb)) := pe_weak (pe_op ho ha hb) fun _ _ _ h => two_parts ok h
theorem e_cmp {op : CmpOp} {r : R2} {g : D → D → Option D} {a b : Expr} {fa fb : Ex} {pos : Pos} (ho : OpR X (compareOp op) r) (ok : OpOk .fz X.K r g) (ha : PE X a (tB X.K own fa)) (hb : PE X b (tB X.K own fb))
    (hm : behindInMarks op b = false) : PE X (.Compare a [op] [b] pos) (tF X.K own (x2 g fa fb)) := pe_weak (pe_cmpR ho ha hb hm) fun _ _ _ h => two_parts ok h
/-- a test by an expression that gives a truth -/
theorem bool_of {k : Kd} {K : PySem.W.Frag} {F H0 H : Hp} {v : V} {b : Bool} (h : k.rel K F H0 H v (.bool b)) : v = .bl b := by
  cases k with
  | fz => cases (show Rp K F v (.bool b) from h); rfl
  | br => exact Br.bl h
  | nw =>
    obtain ⟨_, _, _, _, h2, _⟩ := h
    cases h2
theorem test_of {f : Ex} {t : TE} (w : ∀ σ H Q, tF X.K own f σ H Q → t σ H Q) {σ : L2.St} {H : Hp} {Q : Bool → Hp → Prop} (h : tT X.K own f σ H Q) : t σ H (fun x H' => ∃ k, x = .bl k ∧ Q k H') := by
  obtain ⟨B, F0, ρ, F, re, b, e, q⟩ := h
  refine w _ _ _ ⟨B, F0, ρ, F, re, _, e, fun v F' H' g c => ?_⟩
  exact ⟨b, bool_of (k := .fz) c, q F' H' g⟩
theorem c_cmp {op : CmpOp} {r : R2} {g : D → D → Option D} {a b : Expr} {fa fb : Ex} {pos : Pos} (ho : OpR X (compareOp op) r) (ok : OpOk .fz X.K r g) (ha : PE X a (tB X.K own fa)) (hb : PE X b (tB X.K own fb))
    (hm : behindInMarks op b = false) : PT X (.Compare a [op] [b] pos) (tT X.K own (x2 g fa fb)) := pt_weak (pt_cmpR ho ha hb hm) fun _ _ _ h => test_of (fun _ _ _ h => two_parts ok h) h
theorem c_val {e : Expr} {f : Ex} (h : PE X e (tF X.K own f)) (he : ∀ whole, isTrue e X.env whole = (do let v ← whole; standAt e.pos; holding [v] (truthy v)) := by intro _; rfl) : PT X e (tT X.K own f) :=
  pt_weak (pt_val h he) fun _ _ _ h => test_of (fun _ _ _ h => h) h
theorem xAnd_some {fa fb : Ex} {ρ : Rho} {d : D} (h : xAnd fa fb ρ = some d) : (fa ρ = some (.bool true) ∧ fb ρ = some d) ∨ (fa ρ = some (.bool false) ∧ d = .bool false) := by
  unfold xAnd at h
  split at h
  · next e => exact .inl ⟨e, h⟩
  · next e => cases h; exact .inr ⟨e, rfl⟩
  · cases h
theorem xOr_some {fa fb : Ex} {ρ : Rho} {d : D} (h : xOr fa fb ρ = some d) : (fa ρ = some (.bool true) ∧ d = .bool true) ∨ (fa ρ = some (.bool false) ∧ fb ρ = some d) := by
  unfold xOr at h
  split at h
  · next e => cases h; exact .inl ⟨e, rfl⟩
  · next e => exact .inr ⟨e, h⟩
  · cases h
section
variable {a b : Expr} {rest : List Expr} {fa fb : Ex} {pos : Pos}
theorem c_and1 (ha : PT X a (tT X.K own fa)) : PW X (.BoolOp .And [a] pos) (tT X.K own fa) := pw_and1 ha
theorem c_or1 (ha : PT X a (tT X.K own fa)) : PW X (.BoolOp .Or [a] pos) (tT X.K own fa) := pw_or1 ha
theorem c_and (ha : PT X a (tT X.K own fa)) (hb : PW X (.BoolOp .And (b :: rest) pos) (tT X.K own fb)) : PW X (.BoolOp .And (a :: b :: rest) pos) (tT X.K own (xAnd fa fb)) := by
  refine pw_weak (pw_and ha hb) ?_
  rintro σ H Q ⟨B, F0, ρ, F, re, k, e, q⟩
  rcases xAnd_some e with ⟨e1, e2⟩ | ⟨e1, e2⟩
  · exact ⟨B, F0, ρ, F, re, _, e1, fun F1 H1 g1 => iteT ⟨B, F0, ρ, F1, re.grow g1, k, e2, fun F2 H2 g2 => q F2 H2 (g1.trans g2)⟩⟩
  · cases e2
    exact ⟨B, F0, ρ, F, re, _, e1, fun F1 H1 g1 => iteF (q F1 H1 g1)⟩
theorem c_or (ha : PT X a (tT X.K own fa)) (hb : PW X (.BoolOp .Or (b :: rest) pos) (tT X.K own fb)) : PW X (.BoolOp .Or (a :: b :: rest) pos) (tT X.K own (xOr fa fb)) := by
  refine pw_weak (pw_or ha hb) ?_
  rintro σ H Q ⟨B, F0, ρ, F, re, k, e, q⟩
  rcases xOr_some e with ⟨e1, e2⟩ | ⟨e1, e2⟩
  · cases e2
    exact ⟨B, F0, ρ, F, re, _, e1, fun F1 H1 g1 => iteT (q F1 H1 g1)⟩
  · exact ⟨B, F0, ρ, F, re, _, e1, fun F1 H1 g1 => iteF ⟨B, F0, ρ, F1, re.grow g1, k, e2, fun F2 H2 g2 => q F2 H2 (g1.trans g2)⟩⟩
theorem x1_some {g : D → Option D} {ρ : Rho} {d : D} (h : x1 g fa ρ = some d) : ∃ x, fa ρ = some x ∧ g x = some d := by
  unfold x1 at h
  cases ha : fa ρ with
  | none => rw [ha] at h; cases h
  | some x => rw [ha] at h; exact ⟨x, rfl, h⟩
theorem dNot_some {x d : D} (h : dNot x = some d) : ∃ b, x = .bool b ∧ d = .bool (!b) := by
  cases x <;> simp only [dNot] at h <;> cases h
  exact ⟨_, rfl, rfl⟩
theorem c_not (ha : PT X a (tT X.K own fa)) : PT X (.UnaryOp .Not a pos) (tT X.K own (x1 dNot fa)) := by
  refine pt_weak (pt_not ha) ?_
  rintro σ H Q ⟨B, F0, ρ, F, re, k, e, q⟩
  obtain ⟨x, e1, e2⟩ := x1_some e
  obtain ⟨b, rfl, e3⟩ := dNot_some e2
  cases e3
  exact ⟨B, F0, ρ, F, re, b, e1, fun F1 H1 g1 => q F1 H1 g1⟩
theorem e_one {op} (h : PE X a (tF X.K own fa)) : PE X (.BoolOp op [a] pos) (tF X.K own fa) := pe_one h
theorem e_and (ha : PE X a (tF X.K own fa)) (hb : PE X (.BoolOp .And (b :: rest) pos) (tF X.K own fb)) : PE X (.BoolOp .And (a :: b :: rest) pos) (tF X.K own (xAnd fa fb)) := by
  refine pe_weak (pe_and ha hb) ?_
  rintro σ H Q ⟨B, F0, ρ, F, re, k, e, q⟩
  rcases xAnd_some e with ⟨e1, e2⟩ | ⟨e1, e2⟩
  · refine ⟨B, F0, ρ, F, re, _, e1, fun v F1 H1 g1 c => ⟨true, bool_of (k := .fz) c, iteT ⟨B, F0, ρ, F1, re.grow g1, k, e2, fun v F2 H2 g2 c2 => q v F2 H2 (g1.trans g2) c2⟩⟩⟩
  · subst e2
    exact ⟨B, F0, ρ, F, re, _, e1, fun v F1 H1 g1 c => ⟨false, bool_of (k := .fz) c, iteF (q _ F1 H1 g1 (.bl false))⟩⟩
theorem e_or (ha : PE X a (tF X.K own fa)) (hb : PE X (.BoolOp .Or (b :: rest) pos) (tF X.K own fb)) : PE X (.BoolOp .Or (a :: b :: rest) pos) (tF X.K own (xOr fa fb)) := by
  refine pe_weak (pe_or ha hb) ?_
  rintro σ H Q ⟨B, F0, ρ, F, re, k, e, q⟩
  rcases xOr_some e with ⟨e1, e2⟩ | ⟨e1, e2⟩
  · subst e2
    exact ⟨B, F0, ρ, F, re, _, e1, fun v F1 H1 g1 c => ⟨true, bool_of (k := .fz) c, iteT (q _ F1 H1 g1 (.bl true))⟩⟩
  · exact ⟨B, F0, ρ, F, re, _, e1, fun v F1 H1 g1 c => ⟨false, bool_of (k := .fz) c, iteF ⟨B, F0, ρ, F1, re.grow g1, k, e2, fun v F2 H2 g2 c2 => q v F2 H2 (g1.trans g2) c2⟩⟩⟩
theorem e_not (ha : PE X a (tF X.K own fa)) : PE X (.UnaryOp .Not a pos) (tF X.K own (x1 dNot fa)) := by
  refine pe_weak (pe_not ha) ?_
  rintro σ H Q ⟨B, F0, ρ, F, re, k, e, q⟩
  obtain ⟨x, e1, e2⟩ := x1_some e
  obtain ⟨b, rfl, e3⟩ := dNot_some e2
  subst e3
  exact ⟨B, F0, ρ, F, re, _, e1, fun v F1 H1 g1 c => ⟨b, bool_of (k := .fz) c, q _ F1 H1 g1 (.bl _)⟩⟩
end

/-! ### the operators' rules -/
theorem ok_add : OpOk .fz X.K (fun x y H Q => rI0 (fun i j => .int (i + j)) x y H Q ∨ (rCatA X.K x y H Q ∨ (rCat x y H Q ∨ ∃ i j, x = .str i ∧ y = .str j ∧ i.length + j.length ≤ sizeLine ∧ Q (.str (i ++ j)) H))) dAdd := by
  intro F H x y dx dy d Q fh bx byy e q
  cases dx <;> cases dy <;> simp only [dAdd] at e <;> try cases e
  · rw [Br.int bx, Br.int byy]
    exact .inl ⟨_, _, rfl, rfl, q _ F H (.refl fh) (.int _)⟩
  · next a b =>
    split at e <;> try cases e
    rename_i hl
    rw [Br.str bx, Br.str byy]
    exact .inr (.inr (.inr ⟨a, b, rfl, rfl, Nat.le_trans hl lim_le, q _ F H (.refl fh) (.str _)⟩))
  · next a b =>
    split at e <;> try cases e
    rename_i hl
    obtain ⟨p, vs, rfl, h1, h2, h3⟩ := bx.lst fh
    obtain ⟨p', vs', rfl, h1', h2', h3'⟩ := byy.lst fh
    refine .inr (.inr (.inl ⟨p, p', vs, vs', rfl, rfl, h1, h1', ?_, fun p hp => ?_⟩))
    · rw [h3.length, h3'.length]; exact Nat.le_trans hl lim_le
    · refine q _ _ _ (.new fh hp) (.lst upd_same ?_ ?_)
      · rw [List.length_append, h3.length, h3'.length]; exact hl
      · exact (h3.append h3').mono (Grow.new fh hp).ff
  · next a b =>
    split at e <;> try cases e
    rename_i hl
    obtain ⟨p, vs, rfl, h0, h1, h2, h3⟩ := bx.tup fh
    obtain ⟨p', vs', rfl, h0', h1', h2', h3'⟩ := byy.tup fh
    refine .inr (.inl ⟨p, p', vs, vs', rfl, rfl, .of h1, .of h1', ?_, fun z => ?_, fun _ z => ?_, fun _ _ p hp => ?_⟩)
    · rw [h3.length, h3'.length]; exact Nat.le_trans hl lim_le
    · subst z
      cases h3
      exact q _ F H (.refl fh) (.tup h0' h2' h3')
    · subst z
      cases h3'
      rw [List.append_nil] at q
      exact q _ F H (.refl fh) (.tup h0 h2 h3)
    · refine q _ _ _ (.new fh hp) (.tup upd_same ?_ ?_)
      · rw [List.length_append, h3.length, h3'.length]; exact hl
      · exact (h3.append h3').mono (Grow.new fh hp).ff
theorem e_add {a b : Expr} {fa fb : Ex} {pos : Pos} (ha : PE X a (tB X.K own fa)) (hb : PE X b (tB X.K own fb)) : PE X (.BinOp a .Add b pos) (tF X.K own (x2 dAdd fa fb)) :=
  e_op (OpR.or op_add (OpR.or op_catA (OpR.or op_cat op_add_str))) ok_add ha hb
theorem ok_sub : OpOk .fz X.K (rI0 fun i j => .int (i - j)) dSub := by
  intro F H x y dx dy d Q fh bx byy e q
  cases dx <;> cases dy <;> simp only [dSub] at e <;> cases e
  rw [Br.int bx, Br.int byy]
  exact ⟨_, _, rfl, rfl, q _ F H (.refl fh) (.int _)⟩
theorem e_sub {a b : Expr} {fa fb : Ex} {pos : Pos} (ha : PE X a (tB X.K own fa)) (hb : PE X b (tB X.K own fb)) : PE X (.BinOp a .Sub b pos) (tF X.K own (x2 dSub fa fb)) := e_op op_sub ok_sub ha hb
theorem ok_mul : OpOk .fz X.K (fun x y H Q => rI CMul (fun i j => .int (i * j)) x y H Q ∨ (rRepT X.K x y H Q ∨ rRep x y H Q)) dMul := by
  intro F H x y dx dy d Q fh bx byy e q
  cases dx <;> cases dy <;> simp only [dMul] at e <;> try cases e
  · split at e <;> cases e
    rename_i hc
    rw [Br.int bx, Br.int byy]
    exact .inl ⟨_, _, rfl, rfl, hc, q _ F H (.refl fh) (.int _)⟩
  · next a k =>
    split at e <;> cases e
    rename_i hc
    obtain ⟨p, vs, rfl, h1, h2, h3⟩ := bx.lst fh
    rw [Br.int byy]
    have hm : vs.length * k.toNat ≤ LIM := by
      rw [h3.length]
      exact Nat.le_trans (Nat.mul_le_mul (m₂ := 1000) hc.2.2 (by omega)) (by decide)
    refine .inr (.inr ⟨p, k, vs, rfl, rfl, h1, by omega, by omega, Nat.le_trans hm lim_le, fun p hp => ?_⟩)
    have fl := h3.flat k.toNat
    refine q _ _ _ (.new fh hp) (.lst upd_same ?_ (fl.mono (Grow.new fh hp).ff))
    rw [List.length_flatten, List.map_replicate, List.sum_replicate_nat, Nat.mul_comm]
    exact hm
  · next a k =>
    split at e <;> cases e
    rename_i hc
    obtain ⟨p, vs, rfl, h0, h1, h2, h3⟩ := bx.tup fh
    rw [Br.int byy]
    have hm : vs.length * k.toNat ≤ LIM := by
      rw [h3.length]
      exact Nat.le_trans (Nat.mul_le_mul (m₂ := 1000) hc.2.2.2 (by omega)) (by decide)
    refine .inr (.inl ⟨p, k, vs, rfl, rfl, .of h1, ?_, hc.2.1, hc.2.2.1, ?_, fun p hp => ?_⟩)
    · intro z
      subst z
      cases h3
      exact hc.1 rfl
    · rw [h3.length]; exact hc.2.2.2
    · have fl := h3.flat k.toNat
      refine q _ _ _ (.new fh hp) (.tup upd_same ?_ (fl.mono (Grow.new fh hp).ff))
      rw [List.length_flatten, List.map_replicate, List.sum_replicate_nat, Nat.mul_comm]
      exact hm
theorem e_mul {a b : Expr} {fa fb : Ex} {pos : Pos} (ha : PE X a (tB X.K own fa)) (hb : PE X b (tB X.K own fb)) : PE X (.BinOp a .Mult b pos) (tF X.K own (x2 dMul fa fb)) :=
  e_op (OpR.or op_mul (OpR.or op_repT op_rep)) ok_mul ha hb
theorem ok_div : OpOk .fz X.K (rI CDiv fun i j => .int (i / j)) dDiv := by
  intro F H x y dx dy d Q fh bx byy e q
  cases dx <;> cases dy <;> simp only [dDiv] at e <;> try cases e
  split at e <;> cases e
  rename_i hc
  rw [Br.int bx, Br.int byy]
  exact ⟨_, _, rfl, rfl, hc, q _ F H (.refl fh) (.int _)⟩
theorem e_div {a b : Expr} {fa fb : Ex} {pos : Pos} (ha : PE X a (tB X.K own fa)) (hb : PE X b (tB X.K own fb)) : PE X (.BinOp a .FloorDiv b pos) (tF X.K own (x2 dDiv fa fb)) := e_op op_fdiv ok_div ha hb
theorem ok_mod : OpOk .fz X.K (rI (fun _ j => 0 < j) fun i j => .int (i % j)) dMod := by
  intro F H x y dx dy d Q fh bx byy e q
  cases dx <;> cases dy <;> simp only [dMod] at e <;> try cases e
  split at e <;> cases e
  rename_i hc
  rw [Br.int bx, Br.int byy]
  exact ⟨_, _, rfl, rfl, hc, q _ F H (.refl fh) (.int _)⟩
theorem e_mod {a b : Expr} {fa fb : Ex} {pos : Pos} (ha : PE X a (tB X.K own fa)) (hb : PE X b (tB X.K own fb)) : PE X (.BinOp a .Mod b pos) (tF X.K own (x2 dMod fa fb)) := e_op op_mod ok_mod ha hb
theorem ok_pow : OpOk .fz X.K (rI CPow fun i j => .int (i ^ j.toNat)) dPow := by
  intro F H x y dx dy d Q fh bx byy e q
  cases dx <;> cases dy <;> simp only [dPow] at e <;> try cases e
  split at e <;> cases e
  rename_i hc
  rw [Br.int bx, Br.int byy]
  exact ⟨_, _, rfl, rfl, ⟨hc.1, by omega, hc.2.2⟩, q _ F H (.refl fh) (.int _)⟩
theorem e_pow {a b : Expr} {fa fb : Ex} {pos : Pos} (ha : PE X a (tB X.K own fa)) (hb : PE X b (tB X.K own fb)) : PE X (.BinOp a .Pow b pos) (tF X.K own (x2 dPow fa fb)) := e_op op_pow ok_pow ha hb
theorem e_neg {a : Expr} {fa : Ex} {pos : Pos} (ha : PE X a (tB X.K own fa)) : PE X (.UnaryOp .USub a pos) (tF X.K own (x1 dNeg fa)) := by
  refine pe_weak (pe_un un_neg ha) ?_
  rintro σ H Q ⟨B, F0, ρ, F, re, k, e, q⟩
  obtain ⟨x, e1, e2⟩ := x1_some e
  cases x <;> simp only [dNeg] at e2 <;> cases e2
  exact ⟨B, F0, ρ, F, re, _, e1, fun v F1 H1 g1 c => ⟨_, Br.int c, q _ F1 H1 g1 (.int _)⟩⟩

/-! ### comparisons -/
theorem ok_eq : OpOk .fz X.K (rEqD X.K) dEq := by
  intro F H x y dx dy d Q fh bx byy e q
  unfold dEq at e
  split at e <;> cases e
  rename_i hc
  exact ⟨dx, dy, bx.dp fh (SeqAt.canLay_of_shaped hc.1), byy.dp fh (SeqAt.canLay_of_shaped hc.2), hc.1, hc.2, q _ F H (.refl fh) (.bl _)⟩
theorem ok_ne : OpOk .fz X.K (rNeD X.K) dNe := by
  intro F H x y dx dy d Q fh bx byy e q
  unfold dNe at e
  split at e <;> cases e
  rename_i hc
  exact ⟨dx, dy, bx.dp fh (SeqAt.canLay_of_shaped hc.1), byy.dp fh (SeqAt.canLay_of_shaped hc.2), hc.1, hc.2, q _ F H (.refl fh) (.bl _)⟩
section
variable {a b : Expr} {fa fb : Ex} {pos : Pos} {n : Nat}
theorem e_eq (hr : Room n X.A) (ha : PE X a (tB X.K own fa)) (hb : PE X b (tB X.K own fb)) : PE X (.Compare a [.Eq] [b] pos) (tF X.K own (x2 dEq fa fb)) := e_cmp (op_eqD hr.units) ok_eq ha hb (nomark _)
theorem c_eq (hr : Room n X.A) (ha : PE X a (tB X.K own fa)) (hb : PE X b (tB X.K own fb)) : PT X (.Compare a [.Eq] [b] pos) (tT X.K own (x2 dEq fa fb)) := c_cmp (op_eqD hr.units) ok_eq ha hb (nomark _)
theorem e_ne (hr : Room n X.A) (ha : PE X a (tB X.K own fa)) (hb : PE X b (tB X.K own fb)) : PE X (.Compare a [.NotEq] [b] pos) (tF X.K own (x2 dNe fa fb)) := e_cmp (op_neD hr.units) ok_ne ha hb (nomark _)
theorem c_ne (hr : Room n X.A) (ha : PE X a (tB X.K own fa)) (hb : PE X b (tB X.K own fb)) : PT X (.Compare a [.NotEq] [b] pos) (tT X.K own (x2 dNe fa fb)) := c_cmp (op_neD hr.units) ok_ne ha hb (nomark _)
end
theorem ok_lt : OpOk .fz X.K (fun x y H Q => rI0 (fun i j => .bl (decide (i < j))) x y H Q ∨ rLtT X.K x y H Q) dLt := by
  intro F H x y dx dy d Q fh bx byy e q
  cases dx <;> cases dy <;> simp only [dLt] at e <;> try cases e
  · rw [Br.int bx, Br.int byy]
    exact .inl ⟨_, _, rfl, rfl, q _ F H (.refl fh) (.bl _)⟩
  · next a b =>
    cases ea : intsOf a with
    | none => rw [ea] at e; cases e
    | some ns =>
      cases eb : intsOf b with
      | none => rw [ea, eb] at e; cases e
      | some ms =>
        rw [ea, eb] at e
        cases e
        obtain ⟨p, vs, rfl, h0, h1, h2, h3⟩ := bx.tup fh
        obtain ⟨p', vs', rfl, h0', h1', h2', h3'⟩ := byy.tup fh
        rw [intsOf_some ea] at h3
        rw [intsOf_some eb] at h3'
        rw [h3.ints] at h1
        rw [h3'.ints] at h1'
        exact .inr ⟨p, p', ns, ms, rfl, rfl, .of h1, .of h1', q _ F H (.refl fh) (.bl _)⟩
section
variable {a b c : Expr} {fa fb fc : Ex} {pos : Pos} {n : Nat}
theorem e_lt (hr : Room n X.A) (ha : PE X a (tB X.K own fa)) (hb : PE X b (tB X.K own fb)) : PE X (.Compare a [.Lt] [b] pos) (tF X.K own (x2 dLt fa fb)) := e_cmp (OpR.or op_lt (op_ltT hr.units0)) ok_lt ha hb (nomark _)
theorem c_lt (hr : Room n X.A) (ha : PE X a (tB X.K own fa)) (hb : PE X b (tB X.K own fb)) : PT X (.Compare a [.Lt] [b] pos) (tT X.K own (x2 dLt fa fb)) := c_cmp (OpR.or op_lt (op_ltT hr.units0)) ok_lt ha hb (nomark _)
theorem ok_le : OpOk .fz X.K (rI0 fun i j => .bl (decide (i ≤ j))) dLe := by
  intro F H x y dx dy d Q fh bx byy e q
  cases dx <;> cases dy <;> simp only [dLe] at e <;> cases e
  rw [Br.int bx, Br.int byy]
  exact ⟨_, _, rfl, rfl, q _ F H (.refl fh) (.bl _)⟩
theorem ok_gt : OpOk .fz X.K (rI0 fun i j => .bl (decide (j < i))) dGt := by
  intro F H x y dx dy d Q fh bx byy e q
  cases dx <;> cases dy <;> simp only [dGt] at e <;> cases e
  rw [Br.int bx, Br.int byy]
  exact ⟨_, _, rfl, rfl, q _ F H (.refl fh) (.bl _)⟩
theorem ok_ge : OpOk .fz X.K (rI0 fun i j => .bl (decide (j ≤ i))) dGe := by
  intro F H x y dx dy d Q fh bx byy e q
  cases dx <;> cases dy <;> simp only [dGe] at e <;> cases e
  rw [Br.int bx, Br.int byy]
  exact ⟨_, _, rfl, rfl, q _ F H (.refl fh) (.bl _)⟩
theorem e_le (ha : PE X a (tB X.K own fa)) (hb : PE X b (tB X.K own fb)) : PE X (.Compare a [.LtE] [b] pos) (tF X.K own (x2 dLe fa fb)) := e_cmp op_le ok_le ha hb (nomark _)
theorem c_le (ha : PE X a (tB X.K own fa)) (hb : PE X b (tB X.K own fb)) : PT X (.Compare a [.LtE] [b] pos) (tT X.K own (x2 dLe fa fb)) := c_cmp op_le ok_le ha hb (nomark _)
theorem e_gt (ha : PE X a (tB X.K own fa)) (hb : PE X b (tB X.K own fb)) : PE X (.Compare a [.Gt] [b] pos) (tF X.K own (x2 dGt fa fb)) := e_cmp op_gt ok_gt ha hb (nomark _)
theorem c_gt (ha : PE X a (tB X.K own fa)) (hb : PE X b (tB X.K own fb)) : PT X (.Compare a [.Gt] [b] pos) (tT X.K own (x2 dGt fa fb)) := c_cmp op_gt ok_gt ha hb (nomark _)
theorem e_ge (ha : PE X a (tB X.K own fa)) (hb : PE X b (tB X.K own fb)) : PE X (.Compare a [.GtE] [b] pos) (tF X.K own (x2 dGe fa fb)) := e_cmp op_ge ok_ge ha hb (nomark _)
theorem c_ge (ha : PE X a (tB X.K own fa)) (hb : PE X b (tB X.K own fb)) : PT X (.Compare a [.GtE] [b] pos) (tT X.K own (x2 dGe fa fb)) := c_cmp op_ge ok_ge ha hb (nomark _)
/-- a op b op' c -/
theorem chain_ok {r r' : R2} {g g' : D → D → Option D} (ok : OpOk .fz X.K r g) (ok' : OpOk .fz X.K r' g') {σ : L2.St} {H : Hp} {Q : VK} (h : tF X.K own (xChain g g' fa fb fc) σ H Q) :
    tChain r r' (tB X.K own fa) (tB X.K own fb) (tB X.K own fc) σ H Q := by
  obtain ⟨B, F0, ρ, F, re, d, e, q⟩ := h
  unfold xChain at e
  cases ea : fa ρ with
  | none => rw [ea] at e; cases e
  | some x =>
    cases eb : fb ρ with
    | none => rw [ea, eb] at e; cases e
    | some y =>
      rw [ea, eb] at e
      dsimp only [Option.bind] at e
      refine ⟨B, F0, ρ, F, re, x, ea, fun vx F1 H1 g1 b1 => ⟨B, F0, ρ, F1, re.grow g1, y, eb, fun vy F2 H2 g2 b2 => ?_⟩⟩
      split at e
      · next eg =>
        refine ok F2 H2 vx vy x y _ _ g2.fh (Br.grow b1 g2) b2 eg fun v F3 H3 g3 c3 => ?_
        refine ⟨true, bool_of (k := .fz) c3, iteT ?_⟩
        cases ec : fc ρ with
        | none => rw [ec] at e; cases e
        | some z =>
          rw [ec] at e
          refine ⟨B, F0, ρ, F3, ((re.grow g1).grow g2).grow g3, z, ec, fun vz F4 H4 g4 b4 => ?_⟩
          exact ok' F4 H4 vy vz y z d _ g4.fh (Br.grow b2 (g3.trans g4)) b4 e fun v F5 H5 g5 c5 => q v F5 H5 ((((g1.trans g2).trans g3).trans g4).trans g5) c5
      · next eg =>
        cases e
        refine ok F2 H2 vx vy x y _ _ g2.fh (Br.grow b1 g2) b2 eg fun v F3 H3 g3 c3 => ?_
        exact ⟨false, bool_of (k := .fz) c3, iteF (q _ F3 H3 ((g1.trans g2).trans g3) (.bl false))⟩
      · cases e
theorem e_chain {op op' : CmpOp} {r r' : R2} {g g' : D → D → Option D} (ho : OpR X (compareOp op) r) (ok : OpOk .fz X.K r g) (ho' : OpR X (compareOp op') r') (ok' : OpOk .fz X.K r' g') (ha : PE X a (tB X.K own fa)) (hb : PE X b (tB X.K own fb)) (hc : PE X c (tB X.K own fc))
    (hl : lastMarks [op, op'] [b, c] = false := by rfl) : PE X (.Compare a [op, op'] [b, c] pos) (tF X.K own (xChain g g' fa fb fc)) := pe_weak (pe_chain ho ho' ha hb hc hl) fun _ _ _ h => chain_ok ok ok' h
theorem c_chain {op op' : CmpOp} {r r' : R2} {g g' : D → D → Option D} (ho : OpR X (compareOp op) r) (ok : OpOk .fz X.K r g) (ho' : OpR X (compareOp op') r') (ok' : OpOk .fz X.K r' g') (ha : PE X a (tB X.K own fa)) (hb : PE X b (tB X.K own fb)) (hc : PE X c (tB X.K own fc))
    (hl : lastMarks [op, op'] [b, c] = false := by rfl) : PT X (.Compare a [op, op'] [b, c] pos) (tT X.K own (xChain g g' fa fb fc)) := pt_weak (pt_chain ho ho' ha hb hc hl) fun _ _ _ h => test_of (fun _ _ _ h => chain_ok ok ok' h) h
end
/-! is None -/
theorem ok_isN : OpOk .fz X.K (fun x y H Q => y = .non ∧ Q (.bl (decide (x = .non))) H) (dIs false) := by
  intro F H x y dx dy d Q fh bx byy e q
  unfold dIs at e
  split at e <;> cases e
  rename_i hn
  cases dy <;> try cases hn
  refine ⟨Br.non byy, ?_⟩
  have e1 : decide (x = V.non) = xor false (isNon dx) := by
    rcases bx with h | ⟨_, rfl, h⟩
    · cases h <;> rfl
    · cases h <;> rfl
  rw [e1]
  exact q _ F H (.refl fh) (.bl _)
theorem ok_notN : OpOk .fz X.K (fun x y H Q => y = .non ∧ Q (.bl (!decide (x = .non))) H) (dIs true) := by
  intro F H x y dx dy d Q fh bx byy e q
  unfold dIs at e
  split at e <;> cases e
  rename_i hn
  cases dy <;> try cases hn
  refine ⟨Br.non byy, ?_⟩
  have e1 : (!decide (x = V.non)) = xor true (isNon dx) := by
    rcases bx with h | ⟨_, rfl, h⟩
    · cases h <;> rfl
    · cases h <;> rfl
  rw [e1]
  exact q _ F H (.refl fh) (.bl _)
section
variable {a b : Expr} {fa fb : Ex} {pos : Pos}
theorem e_isN (ha : PE X a (tB X.K own fa)) (hb : PE X b (tB X.K own fb)) : PE X (.Compare a [.Is] [b] pos) (tF X.K own (x2 (dIs false) fa fb)) := e_cmp op_isN ok_isN ha hb (nomark _)
theorem c_isN (ha : PE X a (tB X.K own fa)) (hb : PE X b (tB X.K own fb)) : PT X (.Compare a [.Is] [b] pos) (tT X.K own (x2 (dIs false) fa fb)) := c_cmp op_isN ok_isN ha hb (nomark _)
theorem e_notN (ha : PE X a (tB X.K own fa)) (hb : PE X b (tB X.K own fb)) : PE X (.Compare a [.IsNot] [b] pos) (tF X.K own (x2 (dIs true) fa fb)) := e_cmp op_notN ok_notN ha hb (nomark _)
theorem c_notN (ha : PE X a (tB X.K own fa)) (hb : PE X b (tB X.K own fb)) : PT X (.Compare a [.IsNot] [b] pos) (tT X.K own (x2 (dIs true) fa fb)) := c_cmp op_notN ok_notN ha hb (nomark _)
end
end
end Tw

set_option Elab.async false
set_option linter.all false
set_option maxRecDepth 100000
set_option maxHeartbeats 4000000
namespace Tw
open PySem PySem.Spec PyProof.Rows L2

/-! ### in -/
section
variable {K : PySem.W.Frag} {F H : Hp}
theorem Rp.flat {v : V} {d : D} (r : Rp K F v d) (h : flatD d = true) : flatV v = true := by
  cases r <;> first | rfl | cases h
theorem eqV_eqv {v w : V} {d e : D} (r : Rp K F v d) (s : Rp K F w e) (h : flatD d = true) (h' : flatD e = true) : eqV v w = PyData.eqv d e := by
  cases r <;> first | (cases h; done) | (cases s <;> first | (cases h'; done) | (simp only [eqV, PyData.eqv]) | rfl)
theorem flat_all : ∀ {vs : List V} {ds : List D}, RpAll K F vs ds → ds.all flatD = true → vs.all flatV = true
  | _, _, .nil, _ => rfl
  | _, _, .cons r t, h => by
    rw [List.all_cons, Bool.and_eq_true] at h ⊢
    exact ⟨r.flat h.1, flat_all t h.2⟩
theorem inV_any {w : V} {e : D} (s : Rp K F w e) (h' : flatD e = true) : ∀ {vs : List V} {ds : List D}, RpAll K F vs ds → ds.all flatD = true → inV w vs = ds.any fun z => PyData.eqv z e
  | _, _, .nil, _ => rfl
  | _, _, .cons r t, h => by
    rw [List.all_cons, Bool.and_eq_true] at h
    unfold inV
    rw [List.any_cons, List.any_cons, eqV_eqv r s h.1 h']
    exact congrArg _ (inV_any s h' t h.2)
end
section
variable {X : Cx} {own : Nat → Bool}
theorem flatD_ld {d : D} (h : flatD d = true) : ldD d = false := by
  cases d <;> first | rfl | cases h
theorem ok_in : OpOk .fz X.K (fun x y H Q => rIn X.K false x y H Q ∨ rInD X.K x y H Q) (dIn false) := by
  intro F H x y dx dy d Q fh bx byy e q
  cases dy <;> simp only [dIn] at e <;> try cases e
  · next ds =>
    split at e <;> cases e
    rename_i hc
    exact .inr ⟨dx, ds, bx.dp fh (SeqAt.canLay_of_shaped hc.1), byy.dp fh (SeqAt.canLay_of_shaped hc.2), hc.1, hc.2, q _ F H (.refl fh) (by rw [Bool.false_xor]; exact .bl _)⟩
  · next ds =>
    split at e <;> cases e
    rename_i hc
    obtain ⟨p, vs, rfl, h0, h1, h2, h3⟩ := byy.tup fh
    have rx : Rp X.K F x dx := bx.flat (flatD_ld hc.1)
    refine .inl ⟨p, vs, rfl, .inr (.of h1), rx.flat hc.1, flat_all h3 hc.2, ?_⟩
    rw [if_neg Bool.false_ne_true, inV_any rx hc.1 h3 hc.2]
    exact q _ F H (.refl fh) (by rw [Bool.false_xor]; exact .bl _)
theorem ok_notIn : OpOk .fz X.K (fun x y H Q => rIn X.K true x y H Q ∨ rNotInD X.K x y H Q) (dIn true) := by
  intro F H x y dx dy d Q fh bx byy e q
  cases dy <;> simp only [dIn] at e <;> try cases e
  · next ds =>
    split at e <;> cases e
    rename_i hc
    exact .inr ⟨dx, ds, bx.dp fh (SeqAt.canLay_of_shaped hc.1), byy.dp fh (SeqAt.canLay_of_shaped hc.2), hc.1, hc.2, q _ F H (.refl fh) (by rw [Bool.true_xor]; exact .bl _)⟩
  · next ds =>
    split at e <;> cases e
    rename_i hc
    obtain ⟨p, vs, rfl, h0, h1, h2, h3⟩ := byy.tup fh
    have rx : Rp X.K F x dx := bx.flat (flatD_ld hc.1)
    refine .inl ⟨p, vs, rfl, .inr (.of h1), rx.flat hc.1, flat_all h3 hc.2, ?_⟩
    rw [if_pos rfl, inV_any rx hc.1 h3 hc.2]
    exact q _ F H (.refl fh) (by rw [Bool.true_xor]; exact .bl _)
theorem u65 {n : Nat} {A : Around} (hr : Room n A) : A.units + 65 < cLine := by have := hr.un; omega
section
variable {a b : Expr} {fa fb : Ex} {pos : Pos} {n : Nat}
theorem e_in (hr : Room n X.A) (ha : PE X a (tB X.K own fa)) (hb : PE X b (tB X.K own fb)) (hm : behindInMarks .In b = false := by rfl) : PE X (.Compare a [.In] [b] pos) (tF X.K own (x2 (dIn false) fa fb)) := e_cmp (OpR.or op_in_seq (op_inD (u65 hr))) ok_in ha hb hm
theorem c_in (hr : Room n X.A) (ha : PE X a (tB X.K own fa)) (hb : PE X b (tB X.K own fb)) (hm : behindInMarks .In b = false := by rfl) : PT X (.Compare a [.In] [b] pos) (tT X.K own (x2 (dIn false) fa fb)) := c_cmp (OpR.or op_in_seq (op_inD (u65 hr))) ok_in ha hb hm
theorem e_notIn (hr : Room n X.A) (ha : PE X a (tB X.K own fa)) (hb : PE X b (tB X.K own fb)) (hm : behindInMarks .NotIn b = false := by rfl) : PE X (.Compare a [.NotIn] [b] pos) (tF X.K own (x2 (dIn true) fa fb)) := e_cmp (OpR.or op_notIn_seq (op_notInD (u65 hr))) ok_notIn ha hb hm
theorem c_notIn (hr : Room n X.A) (ha : PE X a (tB X.K own fa)) (hb : PE X b (tB X.K own fb)) (hm : behindInMarks .NotIn b = false := by rfl) : PT X (.Compare a [.NotIn] [b] pos) (tT X.K own (x2 (dIn true) fa fb)) := c_cmp (OpR.or op_notIn_seq (op_notInD (u65 hr))) ok_notIn ha hb hm
end

/-! ### arguments -/
section
variable {e : Expr} {es : List Expr} {f : Ex} {g : Rho → Option (List D)} {pos : Pos}
theorem xCons_some {ρ : Rho} {ds : List D} (h : xCons f g ρ = some ds) : ∃ d r, ds = d :: r ∧ f ρ = some d ∧ g ρ = some r := by
  unfold xCons at h
  cases e1 : f ρ with
  | none => rw [e1] at h; cases h
  | some d =>
    cases e2 : g ρ with
    | none => rw [e1, e2] at h; cases h
    | some r =>
      rw [e1, e2] at h
      cases h
      exact ⟨d, r, rfl, rfl, rfl⟩
theorem a_nil : PA X [] (tA X.K own xNil) := by
  refine pa_weak pa_nil ?_
  rintro σ H Q ⟨B, F0, ρ, F, re, ds, e, q⟩
  cases e
  exact q _ F H (.refl re.fh) .nil
theorem a_cons (he : PE X e (tF X.K own f)) (hr : PA X es (tA X.K own g)) (hs : starEach (e :: es) X.env = (false, eval e X.env) :: starEach es X.env := by rfl) : PA X (e :: es) (tA X.K own (xCons f g)) := by
  refine pa_weak (pa_cons he hr hs) ?_
  rintro σ H Q ⟨B, F0, ρ, F, re, ds, e, q⟩
  obtain ⟨d, r, rfl, e1, e2⟩ := xCons_some e
  exact ⟨B, F0, ρ, F, re, d, e1, fun v F1 H1 g1 r1 => ⟨B, F0, ρ, F1, re.grow g1, r, e2, fun vs F2 H2 g2 r2 => q _ F2 H2 (g1.trans g2) (.cons (Rp.mono g2.ff r1) r2)⟩⟩
theorem ab_nil : PA X [] (tAB X.K own xNil) := by
  refine pa_weak pa_nil ?_
  rintro σ H Q ⟨B, F0, ρ, F, re, ds, e, q⟩
  cases e
  exact q _ F H (.refl re.fh) .nil
theorem ab_cons (he : PE X e (tB X.K own f)) (hr : PA X es (tAB X.K own g)) (hs : starEach (e :: es) X.env = (false, eval e X.env) :: starEach es X.env := by rfl) : PA X (e :: es) (tAB X.K own (xCons f g)) := by
  refine pa_weak (pa_cons he hr hs) ?_
  rintro σ H Q ⟨B, F0, ρ, F, re, ds, e, q⟩
  obtain ⟨d, r, rfl, e1, e2⟩ := xCons_some e
  exact ⟨B, F0, ρ, F, re, d, e1, fun v F1 H1 g1 r1 => ⟨B, F0, ρ, F1, re.grow g1, r, e2, fun vs F2 H2 g2 r2 => q _ F2 H2 (g1.trans g2) (.cons (Br.grow r1 g2) r2)⟩⟩
theorem e_tup {k : Nat} (h : PA X es (tA X.K own g)) : PE X (.Tuple es k pos) (tF X.K own (xTup g)) := by
  refine pe_weak (pe_tup h) ?_
  rintro σ H Q ⟨B, F0, ρ, F, re, d, e, q⟩
  unfold xTup at e
  cases e1 : g ρ with
  | none => rw [e1] at e; cases e
  | some ds =>
    rw [e1] at e
    dsimp only [Option.bind] at e
    split at e <;> cases e
    rename_i hl
    refine ⟨B, F0, ρ, F, re, ds, e1, fun vs F1 H1 g1 r1 => ⟨?_, fun p hp => ?_⟩⟩
    · rw [r1.length]; exact Nat.le_trans hl lim_le
    · have g2 : Grow F1 H1 (upd F1 p (.tup vs)) (upd H1 p (.tup vs)) := .new g1.fh hp
      exact q _ _ _ (g1.trans g2) (.tup upd_same (by rw [r1.length]; exact hl) (r1.mono g2.ff))
theorem n_lst (h : PA X es (tA X.K own g)) : PE X (.List es pos) (tN X.K own (xLst g)) := by
  refine pe_weak (pe_lst h) ?_
  rintro σ H Q ⟨B, F0, ρ, F, re, d, e, q⟩
  unfold xLst at e
  cases e1 : g ρ with
  | none => rw [e1] at e; cases e
  | some ds =>
    rw [e1] at e
    dsimp only [Option.bind] at e
    split at e <;> cases e
    rename_i hl
    refine ⟨B, F0, ρ, F, re, ds, e1, fun vs F1 H1 g1 r1 => ⟨?_, fun p hp => ?_⟩⟩
    · rw [r1.length]; exact Nat.le_trans hl lim_le
    · have g2 : Grow F1 H1 F1 (upd H1 p (.lst vs)) := .own g1.fh hp
      have hf : F1 p = none := g1.fh.free hp
      exact q _ _ _ (g1.trans g2) ⟨p, vs, ds, rfl, rfl, g1.hh.free hp, hf, upd_same, (by rw [r1.length]; exact hl), r1⟩
end

/-! ### calls of built-in things -/
def CallOk (k : Kd) (K : PySem.W.Frag) (r : List V → Hp → VK → Prop) (G : List D → Option D) : Prop :=
  ∀ (F H : Hp) (vs : List V) (ds : List D) (d : D) (Q : VK), Same F H → BrAll K F H vs ds → G ds = some d → (∀ v F' H', Grow F H F' H' → k.rel K F' H H' v d → Q v H') → r vs H Q
theorem xCall_some {G : List D → Option D} {g : Rho → Option (List D)} {ρ : Rho} {d : D} (h : xCall G g ρ = some d) : ∃ ds, g ρ = some ds ∧ G ds = some d := by
  unfold xCall at h
  cases e1 : g ρ with
  | none => rw [e1] at h; cases h
  | some ds => rw [e1] at h; exact ⟨ds, rfl, h⟩
theorem call_parts {k : Kd} {r : List V → Hp → VK → Prop} {G : List D → Option D} {g : Rho → Option (List D)} (ok : CallOk k X.K r G) {σ : L2.St} {H : Hp} {Q : VK} (h : tK k X.K own (xCall G g) σ H Q) : tCB r (tAB X.K own g) σ H Q := by
  obtain ⟨B, F0, ρ, F, re, d, e, q⟩ := h
  obtain ⟨ds, e1, e2⟩ := xCall_some e
  exact ⟨B, F0, ρ, F, re, ds, e1, fun vs F1 H1 g1 b1 => ok F1 H1 vs ds d Q g1.fh b1 e2 fun v F2 H2 g2 c2 => q v F2 H2 (g1.trans g2) (Kd.early g1.hh c2)⟩
section
variable {x : Str} {p pos : Pos} {e : Expr} {es : List Expr} {id T : String} {r : List V → Hp → VK → Prop} {k : Kd} {G : List D → Option D} {g : Rho → Option (List D)}
theorem e_callB (hc : CallR X (.builtin id) r) (ok : CallOk k X.K r G) (hm : X.mg x = none) (ha : PA X (e :: es) (tAB X.K own g)) (hv : bootBuiltins x = some (.builtin id) := by decide +kernel) (hg : Gl X x := by rfl) (hn : x ≠ "__name__" := by decide) (hdb : (x == ("__debug__" : Str)) = false := by decide)
    (he : starEach (e :: es) X.env = (false, eval e X.env) :: starEach es X.env := by rfl) (hpl : (backTo pos (starEach es X.env)).any (·.1) = false := by rfl) : PE X (.Call (.Name x p) (e :: es) [] pos) (tK k X.K own (xCall G g)) :=
  pe_weak (pe_callB hc hg hm hv ha hn hdb he hpl) fun _ _ _ h => call_parts ok h
theorem e_callT (hc : CallR X (.type T) r) (ok : CallOk k X.K r G) (hm : X.mg x = none) (ha : PA X (e :: es) (tAB X.K own g)) (hv : bootBuiltins x = some (.type T) := by decide +kernel) (hg : Gl X x := by rfl) (hn : x ≠ "__name__" := by decide) (hdb : (x == ("__debug__" : Str)) = false := by decide)
    (he : starEach (e :: es) X.env = (false, eval e X.env) :: starEach es X.env := by rfl) (hpl : (backTo pos (starEach es X.env)).any (·.1) = false := by rfl) : PE X (.Call (.Name x p) (e :: es) [] pos) (tK k X.K own (xCall G g)) :=
  pe_weak (pe_callTy hc hg hm hv ha hn hdb he hpl) fun _ _ _ h => call_parts ok h
end
theorem on1_some {g : D → Option D} {ds : List D} {d : D} (h : on1 g ds = some d) : ∃ x, ds = [x] ∧ g x = some d := by
  unfold on1 at h
  split at h
  · exact ⟨_, rfl, h⟩
  · cases h
theorem br1 {K : PySem.W.Frag} {F H : Hp} {vs : List V} {x : D} (h : BrAll K F H vs [x]) : ∃ v, vs = [v] ∧ Br K F H v x := by
  cases h with
  | cons a t => cases t; exact ⟨_, rfl, a⟩
theorem br2 {K : PySem.W.Frag} {F H : Hp} {vs : List V} {x y : D} (h : BrAll K F H vs [x, y]) : ∃ v w, vs = [v, w] ∧ Br K F H v x ∧ Br K F H w y := by
  cases h with
  | cons a t =>
    cases t with
    | cons b t => cases t; exact ⟨_, _, rfl, a, b⟩
theorem scr_br {K : PySem.W.Frag} {F H : Hp} {v : V} {ds : List D} (fh : Same F H) (h : Br K F H v (.dict [(.none, .list ds)])) : ∃ (a : Addr) (ns : List Int), v = .ref a ∧ ds = ns.map PyData.int ∧ SqL K H a (ns.map V.int) := by
  have r := h.flat rfl
  cases r with
  | scr s => exact ⟨_, _, rfl, rfl, fh.seq s⟩
theorem ok_len : CallOk .fz X.K (fun xs H Q => ∃ x n, xs = [x] ∧ LenV X.K x H n ∧ Q (V.int (n : Nat)) H) (on1 dLen) := by
  intro F H vs ds d Q fh b e q
  obtain ⟨x, ex, e'⟩ := on1_some e
  clear e
  subst ex
  replace e := e'
  obtain ⟨v, ev, b'⟩ := br1 b
  clear b
  subst ev
  replace b := b'
  unfold dLen at e
  split at e
  · next ds =>
    cases e
    obtain ⟨p, vs, rfl, h1, h2, h3⟩ := b.lst fh
    exact ⟨_, ds.length, rfl, .inl ⟨vs, .of h1, h3.length.symm⟩, q _ F H (.refl fh) (.int _)⟩
  · next ds =>
    cases e
    obtain ⟨p, vs, rfl, h0, h1, h2, h3⟩ := b.tup fh
    exact ⟨_, ds.length, rfl, .inr ⟨vs, .of h1, h3.length.symm⟩, q _ F H (.refl fh) (.int _)⟩
  · next z =>
    split at e <;> cases e
    rename_i hl
    rw [Br.str b]
    exact ⟨_, z.length, rfl, ⟨Nat.le_trans hl lim_le, rfl⟩, q _ F H (.refl fh) (.int _)⟩
  · next ds =>
    cases e
    obtain ⟨p, ns, rfl, rfl, h⟩ := scr_br fh b
    refine ⟨_, (ns.map PyData.int).length, rfl, .inl ⟨_, h, ?_⟩, q _ F H (.refl fh) (.int _)⟩
    rw [List.length_map, List.length_map]
  · cases e
section
variable {x : Str} {p pos p2 q2 : Pos} {a b : Expr} {fa fb : Ex}
theorem ab1 (ha : PE X a (tB X.K own fa)) (hs : starEach [a] X.env = (false, eval a X.env) :: starEach [] X.env := by rfl) : PA X [a] (tAB X.K own (g1 fa)) := ab_cons ha ab_nil hs
theorem ab2 (ha : PE X a (tB X.K own fa)) (hb : PE X b (tB X.K own fb)) (hs : starEach [a, b] X.env = (false, eval a X.env) :: starEach [b] X.env := by rfl) (hs1 : starEach [b] X.env = (false, eval b X.env) :: starEach [] X.env := by rfl) : PA X [a, b] (tAB X.K own (g2 fa fb)) := ab_cons ha (ab_cons hb ab_nil hs1) hs
theorem ok_min2 : CallOk .fz X.K (fun xs H Q => ∃ i j, xs = [V.int i, V.int j] ∧ Q (V.int (if j < i then j else i)) H) dMin2 := by
  intro F H vs ds d Q fh b e q
  unfold dMin2 at e
  split at e <;> cases e
  obtain ⟨v, w, rfl, b1, b2⟩ := br2 b
  rw [b1.int, b2.int]
  exact ⟨_, _, rfl, q _ F H (.refl fh) (.int _)⟩
theorem ok_max2 : CallOk .fz X.K (fun xs H Q => ∃ i j, xs = [V.int i, V.int j] ∧ Q (V.int (if j > i then j else i)) H) dMax2 := by
  intro F H vs ds d Q fh b e q
  unfold dMax2 at e
  split at e <;> cases e
  obtain ⟨v, w, rfl, b1, b2⟩ := br2 b
  rw [b1.int, b2.int]
  exact ⟨_, _, rfl, q _ F H (.refl fh) (.int _)⟩
theorem ok_int1 : CallOk .fz X.K (fun xs H Q => (∃ i, xs = [V.int i] ∧ Q (V.int i) H) ∨ ∃ k, xs = [V.bl k] ∧ Q (V.int (if k = true then 1 else 0)) H) (on1 dInt1) := by
  intro F H vs ds d Q fh b e q
  obtain ⟨x, ex, e'⟩ := on1_some e
  clear e
  subst ex
  replace e := e'
  obtain ⟨v, ev, b'⟩ := br1 b
  clear b
  subst ev
  replace b := b'
  cases x <;> simp only [dInt1] at e <;> cases e
  · rw [b.bl]
    exact .inr ⟨_, rfl, q _ F H (.refl fh) (.int _)⟩
  · rw [b.int]
    exact .inl ⟨_, rfl, q _ F H (.refl fh) (.int _)⟩
theorem log2_small {n : Nat} (h : n < 2 ^ 1000) : n.log2 < 1920 := by
  by_cases h0 : n = 0
  · subst h0; decide
  · have := (Nat.log2_lt h0).mpr h
    omega
theorem ok_str1 : CallOk .fz X.K (fun xs H Q => ∃ i, xs = [V.int i] ∧ i.natAbs.log2 < 1920 ∧ Q (V.str (Str.ofString (toString i))) H) (on1 dStr1) := by
  intro F H vs ds d Q fh b e q
  obtain ⟨x, ex, e'⟩ := on1_some e
  clear e
  subst ex
  replace e := e'
  obtain ⟨v, ev, b'⟩ := br1 b
  clear b
  subst ev
  replace b := b'
  cases x <;> simp only [dStr1] at e <;> try cases e
  split at e <;> cases e
  rename_i hl
  rw [b.int]
  exact ⟨_, rfl, log2_small hl, q _ F H (.refl fh) (.str _)⟩
theorem ok_list1 : CallOk .nw X.K (fun xs H Q => ∃ p ys, xs = [V.ref p] ∧ (SqL X.K H p ys ∨ SqT X.K H p ys) ∧ ∀ l : Addr, H l = none → Q (V.ref l) (upd H l (HO.lst ys))) (on1 dListOf) := by
  intro F H vs ds d Q fh b e q
  obtain ⟨x, ex, e'⟩ := on1_some e
  clear e
  subst ex
  replace e := e'
  obtain ⟨v, ev, b'⟩ := br1 b
  clear b
  subst ev
  replace b := b'
  cases x <;> simp only [dListOf] at e <;> cases e
  · next ds =>
    obtain ⟨p, vs, rfl, h1, h2, h3⟩ := b.lst fh
    exact ⟨p, vs, rfl, .inl (.of h1), fun l hl => q _ F _ (.own fh hl) ⟨l, vs, ds, rfl, rfl, hl, fh.free hl, upd_same, h2, h3⟩⟩
  · next ds =>
    obtain ⟨p, vs, rfl, h0, h1, h2, h3⟩ := b.tup fh
    exact ⟨p, vs, rfl, .inr (.of h1), fun l hl => q _ F _ (.own fh hl) ⟨l, vs, ds, rfl, rfl, hl, fh.free hl, upd_same, h2, h3⟩⟩
theorem ok_tup1 : CallOk .fz X.K (fun xs H Q => ∃ p ys, xs = [V.ref p] ∧ ((SqL X.K H p ys ∧ ∀ l : Addr, H l = none → Q (V.ref l) (upd H l (HO.tup ys))) ∨ SqT X.K H p ys ∧ Q (V.ref p) H)) (on1 dTupOf) := by
  intro F H vs ds d Q fh b e q
  obtain ⟨x, ex, e'⟩ := on1_some e
  clear e
  subst ex
  replace e := e'
  obtain ⟨v, ev, b'⟩ := br1 b
  clear b
  subst ev
  replace b := b'
  cases x <;> simp only [dTupOf] at e <;> cases e
  · next ds =>
    obtain ⟨p, vs, rfl, h1, h2, h3⟩ := b.lst fh
    exact ⟨p, vs, rfl, .inl ⟨.of h1, fun l hl => q _ _ _ (.new fh hl) (.tup upd_same h2 (h3.mono (Grow.new fh hl).ff))⟩⟩
  · next ds =>
    obtain ⟨p, vs, rfl, h0, h1, h2, h3⟩ := b.tup fh
    exact ⟨p, vs, rfl, .inr ⟨.of h1, q _ F H (.refl fh) (.tup h0 h2 h3)⟩⟩
theorem ok_all : CallOk .fz X.K (rAll X.K) (on1 dAll) := by
  intro F H vs ds d Q fh b e q
  obtain ⟨x, ex, e'⟩ := on1_some e
  clear e
  subst ex
  replace e := e'
  obtain ⟨v, ev, b'⟩ := br1 b
  clear b
  subst ev
  replace b := b'
  cases x <;> simp only [dAll] at e <;> try cases e
  next ds =>
    cases eb : boolsOf ds with
    | none => rw [eb] at e; cases e
    | some bs =>
      rw [eb] at e
      cases e
      obtain ⟨p, vs, rfl, h1, h2, h3⟩ := b.lst fh
      rw [boolsOf_some eb] at h3
      rw [h3.bools] at h1
      exact ⟨p, bs, rfl, .of h1, q _ F H (.refl fh) (.bl _)⟩
theorem ok_any : CallOk .fz X.K (rAny X.K) (on1 dAny) := by
  intro F H vs ds d Q fh b e q
  obtain ⟨x, ex, e'⟩ := on1_some e
  clear e
  subst ex
  replace e := e'
  obtain ⟨v, ev, b'⟩ := br1 b
  clear b
  subst ev
  replace b := b'
  cases x <;> simp only [dAny] at e <;> try cases e
  next ds =>
    cases eb : boolsOf ds with
    | none => rw [eb] at e; cases e
    | some bs =>
      rw [eb] at e
      cases e
      obtain ⟨p, vs, rfl, h1, h2, h3⟩ := b.lst fh
      rw [boolsOf_some eb] at h3
      rw [h3.bools] at h1
      exact ⟨p, bs, rfl, .of h1, q _ F H (.refl fh) (.bl _)⟩
theorem ok_sum : CallOk .fz X.K (rSum X.K) (on1 dSum) := by
  intro F H vs ds d Q fh b e q
  obtain ⟨x, ex, e'⟩ := on1_some e
  clear e
  subst ex
  replace e := e'
  obtain ⟨v, ev, b'⟩ := br1 b
  clear b
  subst ev
  replace b := b'
  cases x <;> simp only [dSum] at e <;> try cases e
  next ds =>
    cases eb : intsOf ds with
    | none => rw [eb] at e; cases e
    | some bs =>
      rw [eb] at e
      cases e
      obtain ⟨p, vs, rfl, h1, h2, h3⟩ := b.lst fh
      rw [intsOf_some eb] at h3
      rw [h3.ints] at h1
      exact ⟨p, bs, rfl, .of h1, q _ F H (.refl fh) (.int _)⟩
theorem ok_maxL : CallOk .fz X.K (rMax X.K) (on1 dMaxL) := by
  intro F H vs ds d Q fh b e q
  obtain ⟨x, ex, e'⟩ := on1_some e
  clear e
  subst ex
  replace e := e'
  obtain ⟨v, ev, b'⟩ := br1 b
  clear b
  subst ev
  replace b := b'
  cases x <;> simp only [dMaxL] at e <;> try cases e
  next ds =>
    cases eb : intsOf ds with
    | none => rw [eb] at e; cases e
    | some bs =>
      rw [eb] at e
      dsimp only [Option.bind] at e
      split at e <;> cases e
      rename_i hne
      obtain ⟨p, vs, rfl, h1, h2, h3⟩ := b.lst fh
      rw [intsOf_some eb] at h3
      rw [h3.ints] at h1
      refine ⟨p, bs, rfl, .of h1, List.length_pos_iff.mpr hne, fun m hm hle => ?_⟩
      have e1 : m = maxI bs := by
        have h1 := maxI_le hm
        have h2 := hle _ (maxI_mem hne)
        omega
      rw [e1]
      exact q _ F H (.refl fh) (.int _)
theorem ok_minL : CallOk .fz X.K (rMin X.K) (on1 dMinL) := by
  intro F H vs ds d Q fh b e q
  obtain ⟨x, ex, e'⟩ := on1_some e
  clear e
  subst ex
  replace e := e'
  obtain ⟨v, ev, b'⟩ := br1 b
  clear b
  subst ev
  replace b := b'
  cases x <;> simp only [dMinL] at e <;> try cases e
  next ds =>
    cases eb : intsOf ds with
    | none => rw [eb] at e; cases e
    | some bs =>
      rw [eb] at e
      dsimp only [Option.bind] at e
      split at e <;> cases e
      rename_i hne
      obtain ⟨p, vs, rfl, h1, h2, h3⟩ := b.lst fh
      rw [intsOf_some eb] at h3
      rw [h3.ints] at h1
      refine ⟨p, bs, rfl, .of h1, List.length_pos_iff.mpr hne, fun m hm hle => ?_⟩
      have e1 : m = minI bs := by
        have h1 := minI_le hm
        have h2 := hle _ (minI_mem hne)
        omega
      rw [e1]
      exact q _ F H (.refl fh) (.int _)
end

/-! ### isinstance -/
section
variable {p pos p2 p3 : Pos} {a : Expr} {fa : Ex}
theorem tyX_of {F H : Hp} {v : V} {x : D} {T : Ty} {b : Bool} (fh : Same F H) (h : Br X.K F H v x) (e : isTy T x = some b) : ∃ t, TyX X.K H v t ∧ PySem.W.kitOne X.K t (.type T.nm) = some b := by
  cases x <;> simp only [isTy] at e <;> cases e
  · rw [Br.non h]
    exact ⟨_, .base .non, kit_ty (by cases T <;> decide +kernel)⟩
  · rw [Br.bl h]
    exact ⟨_, .base (.bl _), kit_ty (by cases T <;> decide +kernel)⟩
  · rw [Br.int h]
    exact ⟨_, .base (.int _), kit_ty (by cases T <;> decide +kernel)⟩
  · rw [Br.str h]
    exact ⟨_, .base (.str _), kit_ty (by cases T <;> decide +kernel)⟩
  · obtain ⟨p, vs, rfl, h1, h2, h3⟩ := h.lst fh
    exact ⟨_, .base (.lst h1), kit_ty (by cases T <;> decide +kernel)⟩
  · obtain ⟨p, vs, rfl, h0, h1, h2, h3⟩ := h.tup fh
    exact ⟨_, .base (.tup h1), kit_ty (by cases T <;> decide +kernel)⟩
theorem e_isi {T : Str} (t : Ty) (ha : PE X a (tB X.K own fa)) (hi : X.mg "isinstance" = none) (hm : X.mg T = none) (hv : bootBuiltins T = some (.type t.nm) := by decide +kernel) (hg : Gl X "isinstance" := by rfl) (hg2 : Gl X T := by rfl)
    (hn : T ≠ "__name__" := by decide) (hd : (T == ("__debug__" : Str)) = false := by decide) (hs : starEach [a, .Name T p2] X.env = (false, eval a X.env) :: starEach [.Name T p2] X.env := by rfl) (hs2 : starEach [.Name T p2] X.env = (false, eval (.Name T p2) X.env) :: starEach [] X.env := by rfl)
    (hpl : (backTo pos (starEach [.Name T p2] X.env)).any (·.1) = false := by rfl) :
    PE X (.Call (.Name "isinstance" p) [a, .Name T p2] [] pos) (tF X.K own (x1 (dIsi t) fa)) := by
  refine pe_weak (pe_callB call_isi hg hi (by decide +kernel) (pa_cons ha (pa_cons (pe_bltn hg2 hm hv (v := .ty t.nm) rfl hn hd) pa_nil hs2) hs) (by decide) (by decide) hs hpl) ?_
  rintro σ H Q ⟨B, F0, ρ, F, re, d, e, q⟩
  obtain ⟨x, e1, e2⟩ := x1_some e
  unfold dIsi at e2
  cases e3 : isTy t x with
  | none => rw [e3] at e2; cases e2
  | some b =>
    rw [e3] at e2
    cases e2
    refine ⟨B, F0, ρ, F, re, x, e1, fun v F1 H1 g1 b1 => ?_⟩
    obtain ⟨ty, h1, h2⟩ := tyX_of g1.fh b1 e3
    exact ⟨v, _, ty, _, b, rfl, .ty t.nm, h1, h2, q _ F1 H1 g1 (.bl _)⟩
end

/-! ### subscripts, slices -/
section
variable {a b : Expr} {fa fb : Ex} {pos p2 : Pos}
theorem atI_map {α β : Type} {f : α → β} {xs : List α} {i : Int} : atI (xs.map f) i = (atI xs i).map f := by
  unfold atI
  rw [List.length_map]
  cases ixN xs.length i <;> simp
theorem RpAll.at {K : PySem.W.Frag} {F : Hp} {vs : List V} {ds : List D} {i : Int} {d : D} (r : RpAll K F vs ds) (h : atI ds i = some d) : ∃ v, atI vs i = some v ∧ Rp K F v d := by
  unfold atI at h ⊢
  rw [r.length]
  cases e : ixN ds.length i with
  | none => rw [e] at h; cases h
  | some j =>
    rw [e] at h
    exact r.get (i := j) h
theorem ok_ix : OpOk .fz X.K (rIx X.K) dIx := by
  intro F H x y dx dy d Q fh bx byy e q
  unfold dIx at e
  split at e
  · next ds i =>
    obtain ⟨p, vs, rfl, h1, h2, h3⟩ := bx.lst fh
    obtain ⟨v, h4, h5⟩ := h3.at e
    exact .inl ⟨p, vs, i, v, rfl, Br.int byy, .of h1, h4, q _ F H (.refl fh) h5⟩
  · next ds i =>
    obtain ⟨p, vs, rfl, h0, h1, h2, h3⟩ := bx.tup fh
    obtain ⟨v, h4, h5⟩ := h3.at e
    exact .inr (.inl ⟨p, vs, i, v, rfl, Br.int byy, .of h1, h4, q _ F H (.refl fh) h5⟩)
  · next z i =>
    split at e
    · rename_i hl
      cases e1 : atI z.cps.toList i with
      | none => rw [e1] at e; cases e
      | some c =>
        rw [e1] at e
        cases e
        exact .inr (.inr ⟨z, i, c, Br.str bx, Br.int byy, Nat.le_trans hl lim_le, e1, q _ F H (.refl fh) (.str _)⟩)
    · cases e
  · next ds i =>
    obtain ⟨p, ns, rfl, rfl, h⟩ := scr_br fh bx
    rw [atI_map] at e
    cases e1 : atI ns i with
    | none => rw [e1] at e; cases e
    | some n =>
      rw [e1] at e
      cases e
      exact .inl ⟨p, _, i, .int n, rfl, Br.int byy, h, by rw [atI_map, e1]; rfl, q _ F H (.refl fh) (.int _)⟩
  · cases e
theorem e_ix (ha : PE X a (tB X.K own fa)) (hb : PE X b (tB X.K own fb)) (hs : PlainIx b := by exact fun _ _ => rfl) : PE X (.Subscript a b pos) (tF X.K own (x2 dIx fa fb)) :=
  pe_weak (pe_ix ix_seq ha hb hs) fun _ _ _ h => two_parts ok_ix h
def tO (K : PySem.W.Frag) (own : Nat → Bool) (f : Option Ex) : TO := fun σ H Q => ∃ B F0 ρ F, RE K B F0 own ρ σ F H ∧ ∃ o, partOf f ρ = some o ∧ ∀ F' H', Grow F H F' H' → Q o H'
theorem o_none : PO X none (tO X.K own none) := by
  refine ⟨fun pins s σ H Q I h => po_none.run pins s σ H Q I ?_⟩
  obtain ⟨B, F0, ρ, F, re, o, e, q⟩ := h
  cases e
  exact q F H (.refl re.fh)
theorem o_some {e : Expr} {f : Ex} (he : PE X e (tB X.K own f)) : PO X (some e) (tO X.K own (some f)) := by
  refine ⟨fun pins s σ H Q I h => (po_some he).run pins s σ H Q I ?_⟩
  obtain ⟨B, F0, ρ, F, re, o, e, q⟩ := h
  have e : ((f ρ).bind intOf).map some = some o := e
  cases e1 : f ρ with
  | none => rw [e1] at e; cases e
  | some d =>
    rw [e1] at e
    cases d <;> simp only [Option.bind, intOf] at e <;> cases e
    exact ⟨B, F0, ρ, F, re, _, e1, fun v F1 H1 g1 b1 => ⟨_, b1.int, q F1 H1 g1⟩⟩
theorem RpAll.cut {K : PySem.W.Frag} {F : Hp} {vs : List V} {ds : List D} {lo hi : Option Int} (r : RpAll K F vs ds) : RpAll K F (cutV vs lo hi) (cutD ds lo hi) := by
  unfold cutV cutD
  rw [r.length]
  exact (r.drop _).take _
theorem cut_le {vs : List V} {lo hi : Option Int} (h : vs.length ≤ LIM) : (cutV vs lo hi).length ≤ LIM := Nat.le_trans (cutV_length vs lo hi) h
theorem e_sl {lo hi : Option Expr} {fl fh : Option Ex} (ha : PE X a (tB X.K own fa)) (hl : PO X lo (tO X.K own fl)) (hh : PO X hi (tO X.K own fh)) : PE X (.Subscript a (.Slice lo hi none p2) pos) (tF X.K own (xSl fa fl fh)) := by
  refine pe_weak (pe_slice (SlR.or sl_list (SlR.or sl_tupA sl_str)) ha hl hh) ?_
  rintro σ H Q ⟨B, F0, ρ, F, re, d, e, q⟩
  unfold xSl at e
  cases e1 : fa ρ with
  | none => rw [e1] at e; cases e
  | some x =>
    rw [e1] at e
    dsimp only [Option.bind_some] at e
    cases e2 : partOf fl ρ with
    | none => rw [e2] at e; cases e
    | some l =>
      cases e3 : partOf fh ρ with
      | none => rw [e2, e3] at e; cases e
      | some h =>
        rw [e2, e3] at e
        dsimp only [Option.bind_some] at e
        refine ⟨B, F0, ρ, F, re, x, e1, fun v F1 H1 g1 b1 => ⟨B, F0, ρ, F1, re.grow g1, l, e2, fun F2 H2 g2 => ⟨B, F0, ρ, F2, (re.grow g1).grow g2, h, e3, fun F3 H3 g3 => ?_⟩⟩⟩
        have b3 := Br.grow b1 (g2.trans g3)
        have g := (g1.trans g2).trans g3
        unfold dSl at e
        split at e
        · next ds =>
          cases e
          obtain ⟨p, vs, rfl, h1, h2, h3⟩ := b3.lst g3.fh
          refine .inl ⟨p, vs, rfl, .of h1, fun p hp => ?_⟩
          exact q _ _ _ (g.trans (.new g3.fh hp)) (.lst upd_same (cut_le h2) (h3.cut.mono (Grow.new g3.fh hp).ff))
        · next ds =>
          cases e
          obtain ⟨p, vs, rfl, h0, h1, h2, h3⟩ := b3.tup g3.fh
          refine .inr (.inl ⟨p, vs, rfl, .of h1, fun hw => ?_, fun _ p hp => ?_⟩)
          · have ec : cutD ds l h = ds := by
              unfold cutD
              rw [← h3.length, hw.1, hw.2, List.drop_zero, h3.length, Nat.sub_zero, List.take_length]
            rw [ec] at q
            exact q _ _ _ g (.tup h0 h2 h3)
          · exact q _ _ _ (g.trans (.new g3.fh hp)) (.tup upd_same (cut_le h2) (h3.cut.mono (Grow.new g3.fh hp).ff))
        · next z =>
          split at e <;> cases e
          rename_i hl
          rw [b3.str]
          exact .inr (.inr ⟨z, rfl, Nat.le_trans hl lim_le, q _ _ _ g (.str _)⟩)
        · cases e
end
end
end Tw

set_option Elab.async false
set_option linter.all false
set_option maxRecDepth 100000
namespace Tw
open PySem PySem.Spec PyProof.Rows L2

/-! ### statements as partial functions -/
inductive Out where
  | nx (ρ : Rho) | rt (d : D) | bk (ρ : Rho) | ct (ρ : Rho)
abbrev Sx := Rho → Option Out
def sNil : Sx := fun ρ => some (.nx ρ)
def sSeq (g1 g2 : Sx) : Sx := fun ρ => match g1 ρ with
  | some (.nx ρ') => g2 ρ'
  | o => o
def sIf (c : Ex) (g1 g2 : Sx) : Sx := fun ρ => match c ρ with
  | some (.bool true) => g1 ρ
  | some (.bool false) => g2 ρ
  | _ => none
def sRet (f : Ex) : Sx := fun ρ => (f ρ).map Out.rt
def sSet (i : Nat) (f : Ex) : Sx := fun ρ => (f ρ).map fun d => .nx (ρ.set i (some d))
abbrev Tg := D → Rho → Option Rho
def gNm (i : Nat) : Tg := fun d ρ => some (ρ.set i (some d))
def setAll : List Nat → List D → Rho → Rho
  | i :: is, d :: ds, ρ => setAll is ds (ρ.set i (some d))
  | _, _, ρ => ρ
/-- a tuple of names -/
def gTu (is : List Nat) : Tg := fun d ρ => match d with
  | .tuple ds => if ds.length = is.length then some (setAll is ds ρ) else none
  | _ => none
/-- target = e -/
def sAsg (tg : Tg) (f : Ex) : Sx := fun ρ => (f ρ).bind fun d => (tg d ρ).map Out.nx
def sApp (i : Nat) (f : Ex) : Sx := fun ρ => match ρ[i]? with
  | some (some (.list ds)) => (f ρ).bind fun d => if ds.length < LIM then some (.nx (ρ.set i (some (.list (ds ++ [d]))))) else none
  | _ => none
def sExt (i : Nat) (f : Ex) : Sx := fun ρ => match ρ[i]? with
  | some (some (.list ds)) => match f ρ with
    | some (.list es) => if ds.length + es.length ≤ LIM then some (.nx (ρ.set i (some (.list (ds ++ es))))) else none
    | _ => none
  | _ => none
/-- x[k] = e, x one's own list -/
def sPut (i : Nat) (fk f : Ex) : Sx := fun ρ => match ρ[i]? with
  | some (some (.list ds)) => (f ρ).bind fun d => match fk ρ with
    | some (.int k) => (ixN ds.length k).map fun j => .nx (ρ.set i (some (.list (ds.set j d))))
    | _ => none
  | _ => none
def forGo (tg : Tg) (body : Sx) : List D → Sx
  | [], ρ => some (.nx ρ)
  | d :: r, ρ => (tg d ρ).bind fun ρ1 => match body ρ1 with
    | some (.nx ρ2) => forGo tg body r ρ2
    | some (.ct ρ2) => forGo tg body r ρ2
    | some (.bk ρ2) => some (.nx ρ2)
    | some (.rt d) => some (.rt d)
    | none => none
abbrev It1 := Rho → Option (List D)
def sFor (fi : It1) (tg : Tg) (body : Sx) : Sx := fun ρ => (fi ρ).bind fun ds => forGo tg body ds ρ
def whileGo (c : Ex) (body : Sx) : Nat → Sx
  | 0, _ => none
  | n + 1, ρ => match c ρ with
    | some (.bool false) => some (.nx ρ)
    | some (.bool true) => match body ρ with
      | some (.nx ρ2) => whileGo c body n ρ2
      | some (.ct ρ2) => whileGo c body n ρ2
      | some (.bk ρ2) => some (.nx ρ2)
      | some (.rt d) => some (.rt d)
      | none => none
    | _ => none
def sWhile (fuel : Nat) (c : Ex) (body : Sx) : Sx := whileGo c body fuel
/-! what is walked -/
def iSeq (f : Ex) : It1 := fun ρ => match f ρ with
  | some (.list ds) => some ds
  | some (.tuple ds) => some ds
  | _ => none
def rng (lo : Int) (n : Nat) : List D := (List.range n).map fun i => .int (lo + (i : Nat))
def iR1 (f : Ex) : It1 := fun ρ => match f ρ with
  | some (.int j) => if j < 1000000 ∧ -1000000 < j then some (rng 0 j.toNat) else none
  | _ => none
def iR2 (f g : Ex) : It1 := fun ρ => match f ρ, g ρ with
  | some (.int i), some (.int j) => if (-1000000 < i ∧ i < 1000000) ∧ (-1000000 < j ∧ j < 1000000) ∧ j - i < 1000000 then some (rng i (j - i).toNat) else none
  | _, _ => none
def zipD : List D → List D → List D
  | a :: r, b :: s => .tuple [a, b] :: zipD r s
  | _, _ => []
/-- two lists, or two tuples -/
def iZip2 (f g : Ex) : It1 := fun ρ => match f ρ, g ρ with
  | some (.list a), some (.list b) => some (zipD a b)
  | some (.tuple a), some (.tuple b) => some (zipD a b)
  | _, _ => none
def enumD : Nat → List D → List D
  | _, [] => []
  | n, a :: r => .tuple [.int n, a] :: enumD (n + 1) r
def iEnumD (f : Ex) : It1 := fun ρ => match f ρ with
  | some (.list a) => some (enumD 0 a)
  | some (.tuple a) => some (enumD 0 a)
  | _ => none
/-! comprehensions -/
def wipeR (ρ : Rho) : List Nat → Rho
  | [] => ρ
  | v :: vs => (wipeR ρ vs).set v none
def compGo (tg : Tg) (tst elt : Ex) (ρ : Rho) : List D → Option (List D)
  | [] => some []
  | d :: r => (tg d ρ).bind fun ρ1 => match tst ρ1 with
    | some (.bool true) => (elt ρ1).bind fun y => (compGo tg tst elt ρ r).map (y :: ·)
    | some (.bool false) => compGo tg tst elt ρ r
    | _ => none
abbrev xYes : Ex := xC (.bool true)
def xComp (fi : It1) (vs : List Nat) (tg : Tg) (tst elt : Ex) : Ex := fun ρ => (fi ρ).bind fun ds => if ds.length ≤ LIM then (compGo tg tst elt (wipeR ρ vs) ds).map PyData.list else none
/-! a def's body -/
def outD : Option Out → Option D
  | some (.rt d) => some d
  | some (.nx _) => some .none
  | _ => none
/-- N slots, n parameters -/
def runB (N n : Nat) (body : Sx) : List D → Option D := fun ds => if ds.length = n then outD (body (ds.map some ++ List.replicate (N - ds.length) none)) else none
theorem runB_len {N n : Nat} {body : Sx} {ds : List D} {d : D} (h : runB N n body ds = some d) : ds.length = n := by
  unfold runB at h
  split at h
  · assumption
  · cases h
end Tw
namespace Tw
open PySem PySem.Spec PyProof.Rows L2
/-- list(range(n)) -/
def xLR (f : Ex) : Ex := fun ρ => (iR1 f ρ).bind fun ds => if ds.length ≤ LIM then some (.list ds) else none
/-- t[::-1] of a tuple -/
def dBackT : D → Option D
  | .tuple ds => some (.tuple ds.reverse)
  | _ => none
/-- a >= b, also of tuples of ints -/
def dGeA : D → D → Option D
  | .int i, .int j => some (.bool (decide (j ≤ i)))
  | .tuple a, .tuple b => (intsOf a).bind fun ns => (intsOf b).bind fun ms => some (.bool (!HT.lexLt ns ms))
  | _, _ => none
/-- enumerate of a tuple -/
def iEnumT (f : Ex) : It1 := fun ρ => match f ρ with
  | some (.tuple a) => some (enumD 0 a)
  | _ => none
/-! what is raised -/
abbrev exD : D := .dict []
def isEx : D → Bool
  | .dict [] => true
  | _ => false
abbrev excD (a : Nat) : D := .dict [(.bool true, .int a)]
def sEx : Sx := fun _ => some (.rt exD)
def sSetX (i : Nat) (f : Ex) : Sx := fun ρ => (f ρ).map fun d => if isEx d = true then .rt exD else .nx (ρ.set i (some d))
def sExpX (f : Ex) : Sx := fun ρ => (f ρ).map fun d => if isEx d = true then .rt exD else .nx ρ
/-- .. called where it does not raise -/
def noEx (G : List D → Option D) : List D → Option D := fun ds => (G ds).bind fun d => if isEx d = true then none else some d
/-- try: body, except: what answers d0 -/
def sTry (gb : Sx) (d0 : D) : Sx := fun ρ => match gb ρ with
  | some (.rt d) => if isEx d = true then some (.rt d0) else some (.rt d)
  | o => o
/-- isinstance(e, T) of the error that the suite holds -/
def xIsE (i : Nat) (a : Nat) (b : Bool) : Ex := fun ρ => match ρ[i]? with
  | some (some (.dict [(.bool true, .int m)])) => if m = a then some (.bool b) else none
  | _ => none
/-- sep.join(words) -/
def dJoin : D → D → Option D
  | .str a, .list ds => (strsOf ds).bind fun ys => if (ys.map (·.length)).sum + ys.length * a.length ≤ 16777216 then some (.str (Txt.join a ys)) else none
  | _, _ => none
/-- xs.count(k), ints -/
def dCount : D → D → Option D
  | .list ds, .int k => (intsOf ds).map fun ns => .int ((ns.count k : Nat) : Int)
  | _, _ => none
/-- xs.index(x) -/
def dIndex : D → D → Option D
  | .list ds, x => if SeqAt.shaped (.list ds) = true ∧ SeqAt.shaped x = true then (ds.findIdx? fun z => PyData.eqv z x).map fun j => .int (j : Nat) else none
  | _, _ => none
end Tw

set_option Elab.async false
set_option linter.all false
set_option maxRecDepth 100000
namespace Tw
open PySem PySem.Spec PyProof.Rows L2
/-! ### sorting -/
def insB {α : Type} (le : α → α → Bool) (x : α) : List α → List α
  | [] => [x]
  | y :: r => if le x y then x :: y :: r else y :: insB le x r
def sortB {α : Type} (le : α → α → Bool) : List α → List α
  | [] => []
  | x :: r => insB le x (sortB le r)
section
variable {α : Type} {le : α → α → Bool}
theorem insB_perm (x : α) : ∀ l, (insB le x l).Perm (x :: l)
  | [] => .refl _
  | y :: r => by
    unfold insB
    split
    · exact .refl _
    · exact ((insB_perm x r).cons y).trans (.swap x y r)
theorem sortB_perm : ∀ l, (sortB le l).Perm l
  | [] => .refl _
  | x :: r => (insB_perm x _).trans ((sortB_perm r).cons x)
theorem insB_sorted (tr : ∀ a b c, le a b = true → le b c = true → le a c = true) (tot : ∀ a b, le a b = true ∨ le b a = true) (x : α) : ∀ l, l.Pairwise (fun a b => le a b = true) → (insB le x l).Pairwise (fun a b => le a b = true)
  | [], _ => by simp [insB]
  | y :: r, h => by
    have hh := List.pairwise_cons.mp h
    unfold insB
    split
    · next e =>
      refine List.pairwise_cons.mpr ⟨fun z hz => ?_, h⟩
      rcases List.mem_cons.mp hz with rfl | hz
      · exact e
      · exact tr _ _ _ e (hh.1 z hz)
    · next e =>
      refine List.pairwise_cons.mpr ⟨fun z hz => ?_, insB_sorted tr tot x r hh.2⟩
      have hz := (insB_perm (le := le) x r).mem_iff.mp hz
      rcases List.mem_cons.mp hz with rfl | hz
      · rcases tot z y with q | q
        · exact absurd q e
        · exact q
      · exact hh.1 z hz
theorem sortB_sorted (tr : ∀ a b c, le a b = true → le b c = true → le a c = true) (tot : ∀ a b, le a b = true ∨ le b a = true) : ∀ l, (sortB le l).Pairwise (fun a b => le a b = true)
  | [] => .nil
  | x :: r => insB_sorted tr tot x _ (sortB_sorted tr tot r)
/-- two orderly lists of the same things are one -/
theorem perm_eq (anti : ∀ a b, le a b = true → le b a = true → a = b) : ∀ {l m : List α}, l.Perm m → l.Pairwise (fun a b => le a b = true) → m.Pairwise (fun a b => le a b = true) → l = m
  | [], m, p, _, _ => (List.nil_perm.mp p).symm
  | a :: l, [], p, _, _ => absurd p.length_eq (by simp)
  | a :: l, b :: m, p, h1, h2 => by
    have h1' := List.pairwise_cons.mp h1
    have h2' := List.pairwise_cons.mp h2
    have e : a = b := by
      have ha : a ∈ b :: m := p.mem_iff.mp List.mem_cons_self
      have hb : b ∈ a :: l := p.mem_iff.mpr List.mem_cons_self
      rcases List.mem_cons.mp ha with q | q
      · exact q
      · rcases List.mem_cons.mp hb with q' | q'
        · exact q'.symm
        · exact anti _ _ (h1'.1 b q') (h2'.1 a q)
    subst e
    rw [perm_eq anti (List.perm_cons a |>.mp p) h1'.2 h2'.2]
end
def sortI : List Int → List Int := sortB fun a b => decide (a ≤ b)
theorem sortI_perm (l : List Int) : (sortI l).Perm l := sortB_perm l
theorem sortI_sorted (l : List Int) : (sortI l).Pairwise (· ≤ ·) := by
  have h := sortB_sorted (le := fun a b : Int => decide (a ≤ b)) (fun a b c h1 h2 => by simp at *; omega) (fun a b => by simp; omega) l
  exact h.imp fun h => by simpa using h
theorem sortI_eq {l m : List Int} (p : m.Perm l) (h : m.Pairwise (· ≤ ·)) : m = sortI l := by
  refine perm_eq (le := fun a b : Int => decide (a ≤ b)) (fun a b h1 h2 => by simp at *; omega) (p.trans (sortI_perm l).symm) (h.imp fun h => by simpa using h) ((sortI_sorted l).imp fun h => by simpa using h)
def leP (a b : Int × Int) : Bool := decide (a.1 < b.1) || (decide (a.1 = b.1) && decide (a.2 ≤ b.2))
theorem leP_iff {a b : Int × Int} : leP a b = true ↔ a.1 < b.1 ∨ (a.1 = b.1 ∧ a.2 ≤ b.2) := by simp [leP]
def sortP : List (Int × Int) → List (Int × Int) := sortB leP
theorem sortP_perm (l : List (Int × Int)) : (sortP l).Perm l := sortB_perm l
theorem sortP_sorted (l : List (Int × Int)) : (sortP l).Pairwise (fun a b => leP a b = true) :=
  sortB_sorted (fun a b c h1 h2 => by rw [leP_iff] at *; omega) (fun a b => by rw [leP_iff, leP_iff]; omega) l
theorem leP_anti {a b : Int × Int} (h1 : leP a b = true) (h2 : leP b a = true) : a = b := by
  rw [leP_iff] at *
  exact Prod.ext (by omega) (by omega)
theorem sortP_eq {l m : List (Int × Int)} (p : m.Perm l) (h : m.Pairwise (fun a b => leP a b = true)) : m = sortP l :=
  perm_eq (fun _ _ => leP_anti) (p.trans (sortP_perm l).symm) h (sortP_sorted l)
/-- rising, none twice -/
def insU (x : Int) : List Int → List Int
  | [] => [x]
  | y :: r => if x < y then x :: y :: r else if x = y then y :: r else y :: insU x r
def sortU : List Int → List Int
  | [] => []
  | x :: r => insU x (sortU r)
theorem insU_mem {x k : Int} : ∀ {l : List Int}, k ∈ insU x l ↔ k = x ∨ k ∈ l
  | [] => by simp [insU]
  | y :: r => by
    unfold insU
    split
    · simp
    · split
      · next e => subst e; simp
      · rw [List.mem_cons, insU_mem, List.mem_cons]
        constructor
        · rintro (h | h | h)
          · exact .inr (.inl h)
          · exact .inl h
          · exact .inr (.inr h)
        · rintro (h | h | h)
          · exact .inr (.inl h)
          · exact .inl h
          · exact .inr (.inr h)
theorem sortU_mem {k : Int} : ∀ {l : List Int}, k ∈ sortU l ↔ k ∈ l
  | [] => Iff.rfl
  | x :: r => by rw [sortU, insU_mem, sortU_mem, List.mem_cons]
theorem insU_sorted {x : Int} : ∀ {l : List Int}, l.Pairwise (· < ·) → (insU x l).Pairwise (· < ·)
  | [], _ => by simp [insU]
  | y :: r, h => by
    have hh := List.pairwise_cons.mp h
    unfold insU
    split
    · next e =>
      refine List.pairwise_cons.mpr ⟨fun z hz => ?_, h⟩
      rcases List.mem_cons.mp hz with rfl | hz
      · exact e
      · exact Int.lt_trans e (hh.1 z hz)
    · split
      · exact h
      · refine List.pairwise_cons.mpr ⟨fun z hz => ?_, insU_sorted hh.2⟩
        rcases insU_mem.mp hz with rfl | hz
        · omega
        · exact hh.1 z hz
theorem sortU_sorted : ∀ l : List Int, (sortU l).Pairwise (· < ·)
  | [] => .nil
  | x :: r => insU_sorted (sortU_sorted r)
theorem rising_eq : ∀ {l m : List Int}, l.Pairwise (· < ·) → m.Pairwise (· < ·) → (∀ k, k ∈ l ↔ k ∈ m) → l = m
  | [], [], _, _, _ => rfl
  | [], b :: m, _, _, h => absurd ((h b).mpr List.mem_cons_self) (by simp)
  | a :: l, [], _, _, h => absurd ((h a).mp List.mem_cons_self) (by simp)
  | a :: l, b :: m, h1, h2, h => by
    have h1' := List.pairwise_cons.mp h1
    have h2' := List.pairwise_cons.mp h2
    have e : a = b := by
      rcases List.mem_cons.mp ((h a).mp List.mem_cons_self) with q | q
      · exact q
      · rcases List.mem_cons.mp ((h b).mpr List.mem_cons_self) with q' | q'
        · exact q'.symm
        · have := h1'.1 b q'
          have := h2'.1 a q
          omega
    subst e
    rw [rising_eq h1'.2 h2'.2 fun k => ?_]
    constructor
    · intro hk
      rcases List.mem_cons.mp ((h k).mp (List.mem_cons_of_mem _ hk)) with q | q
      · subst q
        exact absurd (h1'.1 k hk) (Int.lt_irrefl _)
      · exact q
    · intro hk
      rcases List.mem_cons.mp ((h k).mpr (List.mem_cons_of_mem _ hk)) with q | q
      · subst q
        exact absurd (h2'.1 k hk) (Int.lt_irrefl _)
      · exact q
def pairsOf : List D → Option (List (Int × Int))
  | [] => some []
  | .tuple [.int i, .int j] :: r => (pairsOf r).map ((i, j) :: ·)
  | _ :: _ => none
abbrev dPr (p : Int × Int) : D := .tuple [.int p.1, .int p.2]
theorem pairsOf_map : ∀ ps : List (Int × Int), pairsOf (ps.map dPr) = some ps
  | [] => rfl
  | p :: r => by rw [List.map_cons, pairsOf, pairsOf_map r]; rfl
theorem pairsOf_some : ∀ {ds : List D} {ps : List (Int × Int)}, pairsOf ds = some ps → ds = ps.map dPr
  | [], ps, h => by cases h; rfl
  | .tuple [.int i, .int j] :: r, ps, h => by
    rw [pairsOf] at h
    cases e : pairsOf r with
    | none => rw [e] at h; cases h
    | some qs =>
      rw [e] at h
      cases h
      rw [pairsOf_some e]
      rfl
  | .none :: _, ps, h => by simp [pairsOf] at h
  | .bool _ :: _, ps, h => by simp [pairsOf] at h
  | .int _ :: _, ps, h => by simp [pairsOf] at h
  | .str _ :: _, ps, h => by simp [pairsOf] at h
  | .list _ :: _, ps, h => by simp [pairsOf] at h
  | .dict _ :: _, ps, h => by simp [pairsOf] at h
  | .tuple [] :: _, ps, h => by simp [pairsOf] at h
  | .tuple [_] :: _, ps, h => by simp [pairsOf] at h
  | .tuple (_ :: _ :: _ :: _) :: _, ps, h => by simp [pairsOf] at h
  | .tuple [.none, _] :: _, ps, h => by simp [pairsOf] at h
  | .tuple [.bool _, _] :: _, ps, h => by simp [pairsOf] at h
  | .tuple [.str _, _] :: _, ps, h => by simp [pairsOf] at h
  | .tuple [.list _, _] :: _, ps, h => by simp [pairsOf] at h
  | .tuple [.tuple _, _] :: _, ps, h => by simp [pairsOf] at h
  | .tuple [.dict _, _] :: _, ps, h => by simp [pairsOf] at h
  | .tuple [.int _, .none] :: _, ps, h => by simp [pairsOf] at h
  | .tuple [.int _, .bool _] :: _, ps, h => by simp [pairsOf] at h
  | .tuple [.int _, .str _] :: _, ps, h => by simp [pairsOf] at h
  | .tuple [.int _, .list _] :: _, ps, h => by simp [pairsOf] at h
  | .tuple [.int _, .tuple _] :: _, ps, h => by simp [pairsOf] at h
  | .tuple [.int _, .dict _] :: _, ps, h => by simp [pairsOf] at h
def dSorted : D → Option D
  | .list ds => match intsOf ds with
    | some ns => some (.list ((sortI ns).map .int))
    | none => (pairsOf ds).map fun ps => .list ((sortP ps).map dPr)
  | _ => none
/-- sorted of a tuple of ints -/
def dSortedT : D → Option D
  | .tuple ds => (intsOf ds).map fun ns => .list ((sortI ns).map .int)
  | _ => none
/-- sorted of a list, or of a tuple of ints -/
def dSortedA : D → Option D
  | .list ds => dSorted (.list ds)
  | .tuple ds => dSortedT (.tuple ds)
  | _ => none
/-- sorted(set(..)) of a list of ints -/
def dSortSet : D → Option D
  | .list ds => (intsOf ds).bind fun ns => if ns.length < 64 then some (.list ((sortU ns).map .int)) else none
  | _ => none
/-- len(set(..)) of a tuple of ints -/
def dLenSet : D → Option D
  | .tuple ds => (intsOf ds).bind fun ns => if ns.length ≤ 1000 then some (.int (sortU ns).length) else none
  | _ => none
end Tw

set_option Elab.async false
set_option linter.all false
set_option maxRecDepth 100000
set_option maxHeartbeats 4000000
namespace Tw
open PySem PySem.Spec PyProof.Rows L2

section
variable {K : PySem.W.Frag} {B F0 : Hp} {own : Nat → Bool} {ρ : Rho} {σ : L2.St} {F H F' H' : Hp}
/-! ### slots that change -/
theorem RE.put (r : RE K B F0 own ρ σ F H) {i : Nat} {v : V} {d : D} (ho : own i = false) (h : Rp K F v d) : RE K B F0 own (ρ.set i (some d)) (σ.set i (some v)) F H := by
  refine ⟨r.fh, r.bh, r.ff, r.nf, by simp [r.len], fun j e he hj => ?_, fun j e he hj => ?_, fun j k e e2 a h1 h2 o1 o2 s1 s2 => ?_⟩
  · by_cases hji : i = j
    · subst hji
      by_cases hl : i < ρ.length
      · rw [List.getElem?_set_self hl] at he
        cases he
        exact ⟨v, List.getElem?_set_self (by rw [← r.len]; exact hl), h⟩
      · rw [List.getElem?_eq_none (by simpa using hl)] at he
        cases he
    · rw [List.getElem?_set_ne hji] at he
      rw [List.getElem?_set_ne hji]
      exact r.get j e he hj
  · have hji : i ≠ j := fun z => by rw [z, hj] at ho; cases ho
    rw [List.getElem?_set_ne hji] at he
    rw [List.getElem?_set_ne hji]
    exact r.mine j e he hj
  · have hji : i ≠ j := fun z => by rw [z, o1] at ho; cases ho
    have hki : i ≠ k := fun z => by rw [z, o2] at ho; cases ho
    rw [List.getElem?_set_ne hji] at h1 s1
    rw [List.getElem?_set_ne hki] at h2 s2
    exact r.apart j k e e2 a h1 h2 o1 o2 s1 s2
theorem RE.other (r : RE K B F0 own ρ σ F H) {a : Addr} (h0 : H a = none) (j : Nat) (e : D) (he : ρ[j]? = some (some e)) (hj : own j = true) (hs : σ[j]? = some (some (.ref a))) : False := by
  obtain ⟨b, e1, _, _, hd⟩ := r.mine j e he hj
  obtain ⟨o, e2⟩ := hd.at
  rw [hs] at e1
  cases e1
  rw [h0] at e2
  cases e2
/-- something new of one's own -/
theorem RE.takeO (r : RE K B F0 own ρ σ F H) (g : Grow F H F' H') {i : Nat} {a : Addr} {d' : D} (ho : own i = true) (h0 : H a = none) (h1 : F' a = none) (h3 : Held K F' H' a d') :
    RE K B F0 own (ρ.set i (some d')) (σ.set i (some (.ref a))) F' H' := by
  have r' := r.grow g
  refine ⟨r'.fh, r'.bh, r'.ff, r'.nf, by simp [r.len], fun j e he hj => ?_, fun j e he hj => ?_, fun j k e e2 b q1 q2 o1 o2 s1 s2 => ?_⟩
  · have hji : i ≠ j := fun z => by rw [z, hj] at ho; cases ho
    rw [List.getElem?_set_ne hji] at he
    rw [List.getElem?_set_ne hji]
    exact r'.get j e he hj
  · by_cases hji : i = j
    · subst hji
      by_cases hl' : i < ρ.length
      · rw [List.getElem?_set_self hl'] at he
        cases he
        exact ⟨a, List.getElem?_set_self (by rw [← r.len]; exact hl'), h1, r.bh.free h0, h3⟩
      · rw [List.getElem?_eq_none (by simpa using hl')] at he
        cases he
    · rw [List.getElem?_set_ne hji] at he
      rw [List.getElem?_set_ne hji]
      exact r'.mine j e he hj
  · by_cases hji : i = j
    · subst hji
      by_cases hki : i = k
      · exact hki
      · have hl' : i < σ.length := by
          have := (List.getElem?_eq_some_iff.mp s1).1
          simpa using this
        rw [List.getElem?_set_self hl'] at s1
        cases s1
        rw [List.getElem?_set_ne hki] at q2 s2
        exact (r.other h0 k e2 q2 o2 s2).elim
    · rw [List.getElem?_set_ne hji] at q1 s1
      by_cases hki : i = k
      · subst hki
        have hl' : i < σ.length := by
          have := (List.getElem?_eq_some_iff.mp s2).1
          simpa using this
        rw [List.getElem?_set_self hl'] at s2
        cases s2
        exact (r.other h0 j e q1 o1 s1).elim
      · rw [List.getElem?_set_ne hki] at q2 s2
        exact r.apart j k e e2 b q1 q2 o1 o2 s1 s2
/-- a new list of one's own -/
theorem RE.take (r : RE K B F0 own ρ σ F H) (g : Grow F H F' H') {i : Nat} {a : Addr} {vs : List V} {ds : List D} (ho : own i = true) (h0 : H a = none) (h1 : F' a = none) (h2 : H' a = some (.lst vs)) (hl : vs.length ≤ LIM) (h3 : RpAll K F' vs ds) :
    RE K B F0 own (ρ.set i (some (.list ds))) (σ.set i (some (.ref a))) F' H' := r.takeO g ho h0 h1 (.lst h2 hl h3)
/-- a change at an address that nobody leans on -/
theorem RE.aside (r : RE K B F0 own ρ σ F H) {a : Addr} {o : HO} (h1 : F a = none) (h2 : B a = none) (h3 : ∀ (j : Nat) (e : D), ρ[j]? = some (some e) → own j = true → σ[j]? = some (some (.ref a)) → False) : RE K B F0 own ρ σ F (upd H a o) := by
  refine ⟨fun b x e => ?_, fun b x e => ?_, r.ff, r.nf, r.len, r.get, fun j e he hj => ?_, r.apart⟩
  · rw [upd_ne (ne_of_none e h1)]
    exact r.fh _ _ e
  · rw [upd_ne (ne_of_none e h2)]
    exact r.bh _ _ e
  · obtain ⟨b, e2, e3, e4, hd⟩ := r.mine j e he hj
    have hb : b ≠ a := fun z => h3 j e he hj (by rw [← z]; exact e2)
    exact ⟨b, e2, e3, e4, hd.move (fun o q => by rw [upd_ne hb]; exact q) (.refl _)⟩
/-- what is one's own is changed -/
theorem RE.changeO (r : RE K B F0 own ρ σ F H) {i : Nat} {a : Addr} {d d' : D} {o : HO} (ho : own i = true) (hd : ρ[i]? = some (some d)) (hs : σ[i]? = some (some (.ref a))) (h3 : Held K F (upd H a o) a d') :
    RE K B F0 own (ρ.set i (some d')) σ F (upd H a o) := by
  obtain ⟨a', e2, e4, e5, hld⟩ := r.mine i d hd ho
  rw [hs] at e2
  cases e2
  refine ⟨fun b x e => ?_, fun b x e => ?_, r.ff, r.nf, by simp [r.len], fun j e he hj => ?_, fun j e he hj => ?_, fun j k e e2 b q1 q2 o1 o2 s1 s2 => ?_⟩
  · rw [upd_ne (ne_of_none e e4)]
    exact r.fh _ _ e
  · rw [upd_ne (ne_of_none e e5)]
    exact r.bh _ _ e
  · have hji : i ≠ j := fun z => by rw [z, hj] at ho; cases ho
    rw [List.getElem?_set_ne hji] at he
    exact r.get j e he hj
  · by_cases hji : i = j
    · subst hji
      have hl' : i < ρ.length := (List.getElem?_eq_some_iff.mp hd).1
      rw [List.getElem?_set_self hl'] at he
      cases he
      exact ⟨a, hs, e4, e5, h3⟩
    · rw [List.getElem?_set_ne hji] at he
      obtain ⟨b, q2, q3, q4, hld⟩ := r.mine j e he hj
      have hb : b ≠ a := fun z => by
        subst z
        exact hji (r.apart i j d e b hd he ho hj hs q2)
      exact ⟨b, q2, q3, q4, hld.move (fun o q => by rw [upd_ne hb]; exact q) (.refl _)⟩
  · have g : ∀ (j : Nat) (e : D), own j = true → (ρ.set i (some d'))[j]? = some (some e) → ∃ e', ρ[j]? = some (some e') := fun j e oj q => by
      by_cases hji : i = j
      · subst hji
        exact ⟨d, hd⟩
      · rw [List.getElem?_set_ne hji] at q
        exact ⟨e, q⟩
    obtain ⟨f1, z1⟩ := g j e o1 q1
    obtain ⟨f2, z2⟩ := g k e2 o2 q2
    exact r.apart j k f1 f2 b z1 z2 o1 o2 s1 s2
/-- one's own list is changed -/
theorem RE.change (r : RE K B F0 own ρ σ F H) {i : Nat} {a : Addr} {d : D} {vs' : List V} {ds' : List D} (ho : own i = true) (hd : ρ[i]? = some (some d)) (hs : σ[i]? = some (some (.ref a))) (hl : vs'.length ≤ LIM) (h3 : RpAll K F vs' ds') :
    RE K B F0 own (ρ.set i (some (.list ds'))) σ F (upd H a (.lst vs')) := r.changeO ho hd hs (.lst upd_same hl h3)
theorem wipeR_len (ρ : Rho) : ∀ vs, (wipeR ρ vs).length = ρ.length
  | [] => rfl
  | v :: vs => by unfold wipeR; rw [List.length_set, wipeR_len ρ vs]
theorem wipeR_some {ρ : Rho} {i : Nat} {x : D} : ∀ {vs : List Nat}, (wipeR ρ vs)[i]? = some (some x) → ρ[i]? = some (some x) ∧ i ∉ vs
  | [], h => ⟨h, by simp⟩
  | v :: vs, h => by
    unfold wipeR at h
    by_cases hi : v = i
    · subst hi
      by_cases hv : v < (wipeR ρ vs).length
      · rw [List.getElem?_set_self hv] at h; cases h
      · rw [List.getElem?_eq_none (by simpa using hv)] at h; cases h
    · rw [List.getElem?_set_ne hi] at h
      obtain ⟨h1, h2⟩ := wipeR_some h
      exact ⟨h1, by simp only [List.mem_cons, not_or]; exact ⟨fun e => hi e.symm, h2⟩⟩
theorem wipe_at {σ : L2.St} {i : Nat} : ∀ {vs : List Nat}, i ∉ vs → (wipe σ vs)[i]? = σ[i]?
  | [], _ => rfl
  | v :: vs, h => by
    rw [List.mem_cons, not_or] at h
    unfold wipe
    rw [List.getElem?_set_ne (fun e => h.1 e.symm)]
    exact wipe_at h.2
theorem RE.wiped (r : RE K B F0 own ρ σ F H) (vs : List Nat) : RE K B F0 own (wipeR ρ vs) (wipe σ vs) F H := by
  refine ⟨r.fh, r.bh, r.ff, r.nf, by rw [wipeR_len, wipe_length]; exact r.len, fun j e he hj => ?_, fun j e he hj => ?_, fun j k e e2 b q1 q2 o1 o2 s1 s2 => ?_⟩
  · obtain ⟨h1, h2⟩ := wipeR_some he
    rw [wipe_at h2]
    exact r.get j e h1 hj
  · obtain ⟨h1, h2⟩ := wipeR_some he
    rw [wipe_at h2]
    exact r.mine j e h1 hj
  · obtain ⟨h1, h2⟩ := wipeR_some q1
    obtain ⟨h3, h4⟩ := wipeR_some q2
    rw [wipe_at h2] at s1
    rw [wipe_at h4] at s2
    exact r.apart j k e e2 b h1 h3 o1 o2 s1 s2
/-- two that are alike but for some places are alike where these are wiped -/
theorem wipe_eq {σ σ' : L2.St} {vs : List Nat} (hl : σ'.length = σ.length) (h : ∀ i, i ∉ vs → σ'[i]? = σ[i]?) : wipe σ' vs = wipe σ vs := by
  apply List.ext_getElem?
  intro i
  by_cases hi : i ∈ vs
  · have : ∀ (σ : L2.St) (vs : List Nat), i ∈ vs → (wipe σ vs)[i]? = if i < σ.length then some none else none := by
      intro σ vs
      induction vs with
      | nil => intro h; cases h
      | cons v vs ih =>
        intro h
        unfold wipe
        by_cases e : v = i
        · subst e
          by_cases hv : v < σ.length
          · rw [List.getElem?_set_self (by rw [wipe_length]; exact hv), if_pos hv]
          · rw [List.getElem?_eq_none (by rw [List.length_set, wipe_length]; omega), if_neg hv]
        · rw [List.getElem?_set_ne e]
          rcases List.mem_cons.mp h with z | z
          · exact absurd z.symm e
          · exact ih z
    rw [this σ' vs hi, this σ vs hi, hl]
  · rw [wipe_at hi, wipe_at hi]
    exact h i hi
end

/-! ### targets -/
def tG (K : PySem.W.Frag) (own : Nat → Bool) (f : Tg) (ts : List Nat) : TG := fun v σ H Q => ∃ B F0 ρ F, RE K B F0 own ρ σ F H ∧ ∃ d, Rp K F v d ∧ ∃ ρ', f d ρ = some ρ' ∧
  ∀ σ', RE K B F0 own ρ' σ' F H → σ'.length = σ.length → (∀ i, i ∉ ts → σ'[i]? = σ[i]?) → Q σ' H
def tGs (K : PySem.W.Frag) (own : Nat → Bool) (is : List Nat) : TGs := fun vs σ H Q => ∃ B F0 ρ F, RE K B F0 own ρ σ F H ∧ ∃ ds, RpAll K F vs ds ∧ ds.length = is.length ∧
  ∀ σ', RE K B F0 own (setAll is ds ρ) σ' F H → σ'.length = σ.length → (∀ i, i ∉ is → σ'[i]? = σ[i]?) → Q σ' H
section
variable {X : Cx} {own : Nat → Bool} {pos : Pos}
theorem pg_weak {e : Expr} {t t' : TG} (h : PG X e t) (w : ∀ v σ H Q, t' v σ H Q → t v σ H Q) : PG X e t' := ⟨fun pins s σ H v u Q I r q => h.run pins s σ H v u Q I r (w _ _ _ _ q)⟩
theorem pgs_weak {es : List Expr} {t t' : TGs} (h : PGs X es t) (w : ∀ v σ H Q, t' v σ H Q → t v σ H Q) : PGs X es t' := ⟨fun pins s σ H v u Q I r q => h.run pins s σ H v u Q I r (w _ _ _ _ q)⟩
theorem g_nm {i : Nat} {x : Str} (hN : X.N.Nodup) (ho : own i = false := by rfl) (hi : X.N[i]? = some x := by rfl) (hx : Loc X.env.scope x := by first | exact .inl rfl | exact .inr rfl)
    (hf : X.fn x = true ∨ X.env.scope.names.lookup x = some .local := by first | exact .inl rfl | exact .inr rfl | assumption) : PG X (.Name x pos) (tG X.K own (gNm i) [i]) := by
  refine pg_weak (pg_name hN hi hx hf) ?_
  rintro v σ H Q ⟨B, F0, ρ, F, re, d, rv, ρ', e, q⟩
  cases e
  exact q _ (re.put ho rv) (by simp) fun j hj => List.getElem?_set_ne (fun z => hj (by rw [z]; exact List.mem_singleton_self _))
theorem gs_nil : PGs X [] (tGs X.K own []) := by
  refine pgs_weak pgs_nil ?_
  rintro vs σ H Q ⟨B, F0, ρ, F, re, ds, rv, hl, q⟩
  cases rv with
  | nil => exact ⟨rfl, q σ re rfl fun _ _ => rfl⟩
  | cons _ _ => cases hl
theorem gs_cons {i : Nat} {is : List Nat} {x : Str} {es : List Expr} (hN : X.N.Nodup) (h2 : PGs X es (tGs X.K own is)) (ho : own i = false := by rfl) (hi : X.N[i]? = some x := by rfl) (hx : Loc X.env.scope x := by first | exact .inl rfl | exact .inr rfl)
    (hf : X.fn x = true ∨ X.env.scope.names.lookup x = some .local := by first | exact .inl rfl | exact .inr rfl | assumption) (hs : (assignEach (.Name x pos :: es) X.env).map (·.2) = assign (.Name x pos) X.env :: (assignEach es X.env).map (·.2) := by rfl) :
    PGs X (.Name x pos :: es) (tGs X.K own (i :: is)) := by
  refine pgs_weak (pgs_cons (pg_name hN hi hx hf) h2 hs) ?_
  rintro vs σ H Q ⟨B, F0, ρ, F, re, ds, rv, hl, q⟩
  cases rv with
  | nil => cases hl
  | @cons v vs d ds r t =>
    refine ⟨v, vs, rfl, B, F0, ρ.set i (some d), F, re.put ho r, ds, t, Nat.succ.inj hl, fun σ' re' hl' h' => q σ' re' (by rw [hl', List.length_set]) fun j hj => ?_⟩
    rw [List.mem_cons, not_or] at hj
    rw [h' j hj.2, List.getElem?_set_ne (fun z => hj.1 z.symm)]
theorem g_tu {es : List Expr} {k : Nat} {is : List Nat} (hc : X.calm = true) (h : PGs X es (tGs X.K own is)) (hn : (assignEach es X.env).length = is.length := by rfl) (hst : (assignEach es X.env).findIdx? (·.1) = none := by rfl) :
    PG X (.Tuple es k pos) (tG X.K own (gTu is) is) := by
  refine pg_weak (pg_tup hc h hn hst) ?_
  rintro v σ H Q ⟨B, F0, ρ, F, re, d, rv, ρ', e, q⟩
  unfold gTu at e
  split at e
  · next ds =>
    split at e <;> cases e
    rename_i hl
    cases rv with
    | @tup a vs ds e1 e2 e3 => exact ⟨a, vs, rfl, .of (re.fh _ _ e1), by rw [e3.length]; exact hl, B, F0, ρ, F, re, ds, e3, hl, q⟩
  · cases e
end

/-! ### statements -/
def tS (K : PySem.W.Frag) (own : Nat → Bool) (g : Sx) : TS := fun Dn σ H => ∃ B F0 ρ F, RE K B F0 own ρ σ F H ∧ ∃ o, g ρ = some o ∧ match o with
  | .nx ρ' => ∀ σ' F' H', Same F F' → RE K B F0 own ρ' σ' F' H' → Dn.nx σ' H'
  | .bk ρ' => ∀ σ' F' H', Same F F' → RE K B F0 own ρ' σ' F' H' → Dn.bk σ' H'
  | .ct ρ' => ∀ σ' F' H', Same F F' → RE K B F0 own ρ' σ' F' H' → Dn.ct σ' H'
  | .rt d => ∀ v F' H', Grow F0 B F' H' → Rp K F' v d → Dn.rt v H'
theorem RE.gr {K : PySem.W.Frag} {B F0 : Hp} {own : Nat → Bool} {ρ : Rho} {σ : L2.St} {F H : Hp} (r : RE K B F0 own ρ σ F H) : Grow F0 B F H := ⟨r.bh, r.ff, r.fh, r.nf⟩
section
variable {X : Cx} {own : Nat → Bool} {st : Stmt} {rest : List Stmt} {g g' : Sx} {e : Expr} {f : Ex} {pos : Pos}
theorem ss_nil : PSs X [] (tS X.K own sNil) := by
  refine pss_weak pss_nil ?_
  rintro Dn σ H ⟨B, F0, ρ, F, re, o, e, q⟩
  cases e
  exact q σ F H (.refl _) re
theorem ss_cons (h1 : PS X st (tS X.K own g)) (h2 : PSs X rest (tS X.K own g')) : PSs X (st :: rest) (tS X.K own (sSeq g g')) := by
  refine pss_weak (pss_cons h1 h2) ?_
  rintro Dn σ H ⟨B, F0, ρ, F, re, o, e, q⟩
  unfold sSeq at e
  split at e
  · next ρ1 e1 =>
    refine ⟨B, F0, ρ, F, re, _, e1, fun σ' F' H' s1 re' => ⟨B, F0, ρ1, F', re', o, e, ?_⟩⟩
    cases o with
    | nx ρ' => exact fun σ2 F2 H2 s2 r2 => q σ2 F2 H2 (s1.trans s2) r2
    | bk ρ' => exact fun σ2 F2 H2 s2 r2 => q σ2 F2 H2 (s1.trans s2) r2
    | ct ρ' => exact fun σ2 F2 H2 s2 r2 => q σ2 F2 H2 (s1.trans s2) r2
    | rt d => exact q
  · next hne =>
    refine ⟨B, F0, ρ, F, re, o, e, ?_⟩
    cases o with
    | nx ρ' => exact absurd e (hne ρ')
    | bk ρ' => exact q
    | ct ρ' => exact q
    | rt d => exact q
theorem ss_one (h1 : PS X st (tS X.K own g)) : PSs X [st] (tS X.K own g) := pss_one h1
theorem s_if {c : Expr} {a b : List Stmt} {fc : Ex} (hc : PT X c (tT X.K own fc)) (ha : PSs X a (tS X.K own g)) (hb : PSs X b (tS X.K own g')) : PS X (.If c a b pos) (tS X.K own (sIf fc g g')) := by
  refine ps_weak (ps_if hc ha hb) ?_
  rintro Dn σ H ⟨B, F0, ρ, F, re, o, e, q⟩
  have go : ∀ (gg : Sx), gg ρ = some o → ∀ F1 H1, Grow F H F1 H1 → tS X.K own gg Dn σ H1 := fun gg eg F1 H1 g1 => by
    refine ⟨B, F0, ρ, F1, re.grow g1, o, eg, ?_⟩
    cases o with
    | nx ρ' => exact fun σ2 F2 H2 s2 r2 => q σ2 F2 H2 (g1.ff.trans s2) r2
    | bk ρ' => exact fun σ2 F2 H2 s2 r2 => q σ2 F2 H2 (g1.ff.trans s2) r2
    | ct ρ' => exact fun σ2 F2 H2 s2 r2 => q σ2 F2 H2 (g1.ff.trans s2) r2
    | rt d => exact q
  unfold sIf at e
  split at e
  · next ec => exact ⟨B, F0, ρ, F, re, true, ec, fun F1 H1 g1 => iteT (go g e F1 H1 g1)⟩
  · next ec => exact ⟨B, F0, ρ, F, re, false, ec, fun F1 H1 g1 => iteF (go g' e F1 H1 g1)⟩
  · cases e
theorem s_ret (h : PE X e (tF X.K own f)) : PS X (.Return (some e) pos) (tS X.K own (sRet f)) := by
  refine ps_weak (ps_ret h) ?_
  rintro Dn σ H ⟨B, F0, ρ, F, re, o, e, q⟩
  unfold sRet at e
  cases e1 : f ρ with
  | none => rw [e1] at e; cases e
  | some d =>
    rw [e1] at e
    cases e
    exact ⟨B, F0, ρ, F, re, d, e1, fun v F1 H1 g1 r1 => q v F1 H1 ((re.gr).trans g1) r1⟩
/-- a name; what it holds may be locked for good -/
def tVarL (i : Nat) : TE := fun σ H Q => ∃ v, σ[i]? = some (some v) ∧ (Q v H ∨ ∃ d u, v = .ref d ∧ H d = some u ∧ Mut (some u) ∧ ∀ od, Q v (upd H d (.frz od u)))
theorem pe_varL {i : Nat} {x : Str} {p : Pos} (hN : X.N[i]? = some x) (hv : Vis X.env.scope x) (hd : (x == ("__debug__" : Str)) = false) (hcd : (x == ("__classdict__" : Str)) = false) : PE X (.Name x p) (tVarL i) := by
  refine ⟨fun pins s σ H Q I h => ?_⟩
  obtain ⟨v, e, h⟩ := h
  refine thn ((pe_var (pos := p) (i := i) hN hv hd hcd).run pins s σ H (fun v' H' => v' = v ∧ H' = H) I ⟨v, e, rfl, rfl⟩) ?_
  rintro u s1 ⟨x1, H1, I1, r1, rfl, rfl⟩
  rcases h with h | ⟨d, w, rfl, hw, mu, h⟩
  · exact ⟨_, _, I1, r1, h⟩
  · obtain ⟨od, I2⟩ := I1.lock hw mu
    exact ⟨_, _, I2, r1, h od⟩
/-- return of a list of one's own -/
theorem s_retB {i : Nat} {x : Str} {p2 : Pos} (hN : X.N[i]? = some x := by rfl) (hv : Vis X.env.scope x := by first | exact Or.inl rfl | exact Or.inr (Or.inl rfl) | exact Or.inr (Or.inr rfl)) (ho : own i = true := by rfl)
    (hd : (x == ("__debug__" : Str)) = false := by decide) (hcd : (x == ("__classdict__" : Str)) = false := by decide) : PS X (.Return (some (.Name x p2)) pos) (tS X.K own (sRet (xVar i))) := by
  refine ps_weak (ps_ret (pe_varL (i := i) hN hv hd hcd)) ?_
  rintro Dn σ H ⟨B, F0, ρ, F, re, o, e, q⟩
  unfold sRet at e
  cases e1 : xVar i ρ with
  | none => rw [e1] at e; cases e
  | some d =>
    rw [e1] at e
    cases e
    have e2 : ρ[i]? = some (some d) := by
      unfold xVar at e1
      split at e1
      · next h => cases e1; exact h
      · cases e1
    obtain ⟨a, h2, h4, h5, hld⟩ := re.mine i d e2 ho
    cases hld with
    | @lst vs ds h3 h6 h7 =>
      have s1 : Same F (upd F a (.lst vs)) := same_upd h4
      refine ⟨_, h2, .inl (q _ (upd F a (.lst vs)) H ⟨re.bh, re.ff.trans s1, fun b o e => ?_, fun b o e => ?_⟩ (.lst upd_same h6 (h7.mono s1)))⟩
      · by_cases hb : b = a
        · subst hb
          rw [upd_same] at e
          rw [h3]
          exact e
        · rw [upd_ne hb] at e
          exact re.fh _ _ e
      · rw [upd_ne (ne_of_none e h5)]
        exact re.nf _ _ e
    | @dic i' j' r t h3 h6 h7 =>
      refine ⟨_, h2, .inr ⟨a, _, rfl, h3, trivial, fun od => ?_⟩⟩
      have s1 : Same F (upd F a (.frz od (.dK (((i', j') :: r).map kvV)))) := same_upd h4
      refine q _ (upd F a (.frz od (.dK (((i', j') :: r).map kvV)))) _ ⟨fun b o e => ?_, re.ff.trans s1, fun b o e => ?_, fun b o e => ?_⟩ (.dk upd_same h6 h7)
      · rw [upd_ne (ne_of_none e h5)]
        exact re.bh _ _ e
      · by_cases hb : b = a
        · subst hb
          rw [upd_same] at e ⊢
          exact e
        · rw [upd_ne hb] at e ⊢
          exact re.fh _ _ e
      · rw [upd_ne (ne_of_none e h5)]
        exact re.nf _ _ e
theorem sSet_some {i : Nat} {ρ : Rho} {o : Out} (h : sSet i f ρ = some o) : ∃ d, f ρ = some d ∧ o = .nx (ρ.set i (some d)) := by
  unfold sSet at h
  cases e1 : f ρ with
  | none => rw [e1] at h; cases h
  | some d => rw [e1] at h; cases h; exact ⟨d, rfl, rfl⟩
theorem s_setT {i : Nat} {t : TE} (h : PS X st (tAsg t (gName i))) (hw : ∀ σ H Q, tF X.K own f σ H Q → t σ H Q) (ho : own i = false) : PS X st (tS X.K own (sSet i f)) := by
  refine ps_weak h ?_
  rintro Dn σ H ⟨B, F0, ρ, F, re, o, e, q⟩
  obtain ⟨d, e1, rfl⟩ := sSet_some e
  exact hw _ _ _ ⟨B, F0, ρ, F, re, d, e1, fun v F1 H1 g1 r1 => q _ F1 H1 g1.ff ((re.grow g1).put ho r1)⟩
theorem s_setTN {i : Nat} {t : TE} (h : PS X st (tAsg t (gName i))) (hw : ∀ σ H Q, tN X.K own f σ H Q → t σ H Q) (ho : own i = true) : PS X st (tS X.K own (sSet i f)) := by
  refine ps_weak h ?_
  rintro Dn σ H ⟨B, F0, ρ, F, re, o, e, q⟩
  obtain ⟨d, e1, rfl⟩ := sSet_some e
  refine hw _ _ _ ⟨B, F0, ρ, F, re, d, e1, ?_⟩
  rintro v F1 H1 g1 ⟨a, vs, ds, rfl, rfl, h1, h2, h3, h4, h5⟩
  exact q _ F1 H1 g1.ff (re.take g1 ho h1 h2 h3 h4 h5)
section
variable {i : Nat} {x : Str} {pos' : Pos}
theorem s_set (hN : X.N.Nodup) (he : PE X e (tF X.K own f)) (ho : own i = false := by rfl) (hi : X.N[i]? = some x := by rfl) (hx : Loc X.env.scope x := by first | exact .inl rfl | exact .inr rfl) (hs : swapsWith e (some (.Name x pos')) pos.line X.env = pure false := by rfl)
    (hf : X.fn x = true ∨ X.env.scope.names.lookup x = some .local := by first | exact .inl rfl | exact .inr rfl | assumption) : PS X (.Assign [.Name x pos'] e pos) (tS X.K own (sSet i f)) :=
  s_setT (ps_set hN hi hx he hs hf) (fun _ _ _ h => h) ho
theorem s_setN (hN : X.N.Nodup) (he : PE X e (tN X.K own f)) (ho : own i = true := by rfl) (hi : X.N[i]? = some x := by rfl) (hx : Loc X.env.scope x := by first | exact .inl rfl | exact .inr rfl) (hs : swapsWith e (some (.Name x pos')) pos.line X.env = pure false := by rfl)
    (hf : X.fn x = true ∨ X.env.scope.names.lookup x = some .local := by first | exact .inl rfl | exact .inr rfl | assumption) : PS X (.Assign [.Name x pos'] e pos) (tS X.K own (sSet i f)) :=
  s_setTN (ps_set hN hi hx he hs hf) (fun _ _ _ h => h) ho
end
/-- target = e -/
theorem s_asg {tg : Expr} {gt : Tg} {ts : List Nat} (he : PE X e (tF X.K own f)) (hg : PG X tg (tG X.K own gt ts)) (hs : swapsWithSole [tg] e pos.line X.env = pure false := by rfl) (hw : swappedStores [tg] e X.env = pure none := by rfl)
    (h1 : (assignEach [tg] X.env).map (·.2) = [assign tg X.env] := by rfl) : PS X (.Assign [tg] e pos) (tS X.K own (sAsg gt f)) := by
  refine ps_weak (ps_asg he hg hs hw h1) ?_
  rintro Dn σ H ⟨B, F0, ρ, F, re, o, e, q⟩
  unfold sAsg at e
  cases e1 : f ρ with
  | none => rw [e1] at e; cases e
  | some d =>
    rw [e1] at e
    dsimp only [Option.bind_some] at e
    cases e2 : gt d ρ with
    | none => rw [e2] at e; cases e
    | some ρ' =>
      rw [e2] at e
      cases e
      exact ⟨B, F0, ρ, F, re, d, e1, fun v F1 H1 g1 r1 => ⟨B, F0, ρ, F1, re.grow g1, d, r1, ρ', e2, fun σ' r' _ _ => q σ' F1 H1 g1.ff r'⟩⟩
/-- x.append(e) -/
theorem s_app {i : Nat} {x : Str} {p2 ap cp : Pos} (he : PE X e (tF X.K own f)) (ho : own i = true := by rfl) (hN : X.N[i]? = some x := by rfl) (hv : Vis X.env.scope x := by first | exact Or.inl rfl | exact Or.inr (Or.inl rfl) | exact Or.inr (Or.inr rfl))
    (hd : (x == ("__debug__" : Str)) = false := by decide) (hcd : (x == ("__classdict__" : Str)) = false := by decide)
    (a1 : attributeBase (.Name x p2) "append" X.env (eval (.Name x p2) X.env) = eval (.Name x p2) X.env := by rfl)
    (a2 : ((((backTo cp (starEach [e] X.env)).all fun x => !x.fst) && (backToKw cp (keywordEach [] X.env)).all fun x => x.fst.isSome) && decide (([e].length + ([] : List Keyword).length + if ([] : List Keyword).isEmpty = true then 0 else 1) < 30)) = true := by rfl)
    (a3 : (ap.endLine == cp.line) = true := by rfl) (a4 : starEach [e] X.env = (false, eval e X.env) :: starEach [] X.env := by rfl) (a5 : ((backTo cp (starEach [] X.env)).any fun x => x.fst) = false := by rfl) :
    PS X (.Expr (.Call (.Attribute (.Name x p2) "append" ap) [e] [] cp) pos) (tS X.K own (sApp i f)) := by
  refine ps_weak (ps_expr (pe_bm PySem.F.plainAttrs_list PySem.F.slot_list_append PySem.F.type_list_append mt_append (pe_var (i := i) hN hv hd hcd) (pa_cons he pa_nil a4) a1 a2 a3 a4 a5)) ?_
  rintro Dn σ H ⟨B, F0, ρ, F, re, o, e, q⟩
  unfold sApp at e
  split at e
  · next ds e1 =>
    cases e2 : f ρ with
    | none => rw [e2] at e; cases e
    | some d =>
      rw [e2] at e
      dsimp only [Option.bind_some] at e
      split at e <;> cases e
      rename_i hl
      obtain ⟨a, vs, ds', h1, h2, h3, h4, h5, h6, h7⟩ := re.mineL e1 ho
      cases h1
      refine ⟨.ref a, h2, .inl ⟨rfl, vs, .of h3⟩, B, F0, ρ, F, re, d, e2, fun v F1 H1 g1 r1 => ⟨a, vs, v, rfl, rfl, g1.hh _ _ h3, ?_, ?_⟩⟩
      · rw [h7.length]; exact Nat.lt_trans hl lim_lt
      · refine q σ F1 _ g1.ff ((re.grow g1).change ho e1 h2 ?_ ((h7.mono g1.ff).append (.cons r1 .nil)))
        rw [List.length_append, h7.length]
        exact hl
  · cases e
/-- x.extend(e), e a list -/
theorem s_ext {i : Nat} {x : Str} {p2 ap cp : Pos} (he : PE X e (tF X.K own f)) (ho : own i = true := by rfl) (hN : X.N[i]? = some x := by rfl) (hv : Vis X.env.scope x := by first | exact Or.inl rfl | exact Or.inr (Or.inl rfl) | exact Or.inr (Or.inr rfl))
    (hd : (x == ("__debug__" : Str)) = false := by decide) (hcd : (x == ("__classdict__" : Str)) = false := by decide)
    (a1 : attributeBase (.Name x p2) "extend" X.env (eval (.Name x p2) X.env) = eval (.Name x p2) X.env := by rfl)
    (a2 : ((((backTo cp (starEach [e] X.env)).all fun x => !x.fst) && (backToKw cp (keywordEach [] X.env)).all fun x => x.fst.isSome) && decide (([e].length + ([] : List Keyword).length + if ([] : List Keyword).isEmpty = true then 0 else 1) < 30)) = true := by rfl)
    (a3 : (ap.endLine == cp.line) = true := by rfl) (a4 : starEach [e] X.env = (false, eval e X.env) :: starEach [] X.env := by rfl) (a5 : ((backTo cp (starEach [] X.env)).any fun x => x.fst) = false := by rfl) :
    PS X (.Expr (.Call (.Attribute (.Name x p2) "extend" ap) [e] [] cp) pos) (tS X.K own (sExt i f)) := by
  refine ps_weak (ps_expr (pe_bm PySem.F.plainAttrs_list PySem.F.slot_list_extend PySem.F.type_list_extend mt_extend (pe_var (i := i) hN hv hd hcd) (pa_cons he pa_nil a4) a1 a2 a3 a4 a5)) ?_
  rintro Dn σ H ⟨B, F0, ρ, F, re, o, e, q⟩
  unfold sExt at e
  split at e
  · next ds e1 =>
    split at e
    · next es e2 =>
      split at e <;> cases e
      rename_i hl
      obtain ⟨a, vs, ds', h1, h2, h3, h4, h5, h6, h7⟩ := re.mineL e1 ho
      cases h1
      refine ⟨.ref a, h2, .inl ⟨rfl, vs, .of h3⟩, B, F0, ρ, F, re, _, e2, fun v F1 H1 g1 r1 => ?_⟩
      have r1 : Rp X.K F1 v (.list es) := r1
      cases r1 with
      | @lst b ws es k1 k2 k3 =>
        refine ⟨a, b, vs, ws, rfl, rfl, g1.hh _ _ h3, g1.fh _ _ k1, ?_, ?_⟩
        · rw [h7.length, k3.length]; exact Nat.le_trans hl lim_le
        · refine q σ F1 _ g1.ff ((re.grow g1).change ho e1 h2 ?_ ((h7.mono g1.ff).append k3))
          rw [List.length_append, h7.length, k3.length]
          exact hl
    · cases e
  · cases e
/-- x[k] = e -/
theorem s_put {i : Nat} {x : Str} {p2 p3 : Pos} {ek : Expr} {fk : Ex} (he : PE X e (tF X.K own f)) (hk : PE X ek (tF X.K own fk)) (ho : own i = true := by rfl) (hN : X.N[i]? = some x := by rfl) (hv : Vis X.env.scope x := by first | exact Or.inl rfl | exact Or.inr (Or.inl rfl) | exact Or.inr (Or.inr rfl))
    (hd : (x == ("__debug__" : Str)) = false := by decide) (hcd : (x == ("__classdict__" : Str)) = false := by decide)
    (ha : ∀ v, assign (.Subscript (.Name x p2) ek p3) X.env v = (do
      let ov ← holding [v] (eval (.Name x p2) X.env)
      let iv ← holding [v, ov] (eval ek X.env)
      standAt p3
      holding [v, ov, iv] (setItem ov iv v)
      release [v, ov, iv] []) := by intro _; rfl)
    (hs : swapsWithSole [.Subscript (.Name x p2) ek p3] e pos.line X.env = pure false := by rfl) (hw : swappedStores [.Subscript (.Name x p2) ek p3] e X.env = pure none := by rfl)
    (h1 : (assignEach [.Subscript (.Name x p2) ek p3] X.env).map (·.2) = [assign (.Subscript (.Name x p2) ek p3) X.env] := by rfl) :
    PS X (.Assign [.Subscript (.Name x p2) ek p3] e pos) (tS X.K own (sPut i fk f)) := by
  refine ps_weak (ps_asg he (pg_sub (pe_var (i := i) hN hv hd hcd) hk set_list ha) hs hw h1) ?_
  rintro Dn σ H ⟨B, F0, ρ, F, re, o, e, q⟩
  unfold sPut at e
  split at e
  · next ds e1 =>
    cases e2 : f ρ with
    | none => rw [e2] at e; cases e
    | some d =>
      rw [e2] at e
      dsimp only [Option.bind_some] at e
      split at e
      · next k e3 =>
        cases e4 : ixN ds.length k with
        | none => rw [e4] at e; cases e
        | some j =>
          rw [e4] at e
          cases e
          obtain ⟨a, vs, ds', h1, h2, h3, h4, h5, h6, h7⟩ := re.mineL e1 ho
          cases h1
          refine ⟨B, F0, ρ, F, re, d, e2, fun v F1 H1 g1 r1 => ⟨.ref a, h2, B, F0, ρ, F1, re.grow g1, _, e3, fun vk F2 H2 g2 r2 => ?_⟩⟩
          have r2 : Rp X.K F2 vk (.int k) := r2
          cases r2
          refine ⟨a, vs, k, j, rfl, rfl, g2.hh _ _ (g1.hh _ _ h3), by rw [h7.length]; exact e4, ?_⟩
          refine q σ F2 _ (g1.trans g2).ff (((re.grow g1).grow g2).change ho e1 h2 ?_ (RpAll.set (Rp.mono g2.ff r1) j (h7.mono (g1.trans g2).ff)))
          rw [List.length_set]
          exact h6
      · cases e
  · cases e
end
end Tw

set_option Elab.async false
set_option linter.all false
set_option maxRecDepth 100000
set_option maxHeartbeats 4000000
namespace Tw
open PySem PySem.Spec PyProof.Rows L2

/-! ### what is walked -/
/-- J gives the data ds; fz: whatever becomes of one's own lists -/
def Walks (K : PySem.W.Frag) (fz : Bool) (F1 H1 : Hp) (J : It) (ds : List D) : Prop :=
  ∀ F H : Hp, Same F1 F → Same F H → (fz = false → Same H1 H) → (∀ i, i < ds.length → J.go i H) ∧ J.stop ds.length H ∧
    ∀ (i : Nat) (x : V) (H' : Hp), i < ds.length → J.yld i H x H' → ∃ F' d, Grow F H F' H' ∧ ds[i]? = some d ∧ Rp K F' x d
def tI (K : PySem.W.Frag) (own : Nat → Bool) (fz : Bool) (fi : It1) : TI := fun σ H R => ∃ B F0 ρ F, RE K B F0 own ρ σ F H ∧ ∃ ds, fi ρ = some ds ∧ ∀ J F' H', Grow F H F' H' → Walks K fz F' H' J ds → R J H'
section
variable {X : Cx} {own : Nat → Bool} {tg l : Expr} {f : Ex}
theorem pi_weak {t t' : TI} (h : PI X tg l t) (w : ∀ σ H R, t' σ H R → t σ H R) : PI X tg l t' := ⟨fun pins s σ H R I q => h.run pins s σ H R I (w _ _ _ q)⟩
/-- a list or a tuple, whichever it is -/
def iAny (K : PySem.W.Frag) (tl : TE) : TI := fun σ H R => tl σ H fun x H1 => ∃ a, x = .ref a ∧ ((∃ xs, SqL K H1 a xs ∧ R (Itl K a) H1) ∨ ∃ xs, SqT K H1 a xs ∧ R (Itt K a) H1)
theorem pi_any {tl : TE} (hl : PE X l tl) : PI X tg l (iAny X.K tl) := by
  refine ⟨fun pins s σ H R I h => thn (hl.run pins s σ H _ I h) ?_⟩
  rintro v s1 ⟨x, H1, I1, r1, a, rfl, q | q⟩
  · cases r1
    obtain ⟨xs, hq, q⟩ := q
    obtain ⟨its, rv, p, hz⟩ := I1.list hq
    refine wpAny_pyIter_list p.isList ⟨_, [s1.heap.objs.size], _, _, H1, rfl, I1.kept (t' := s1.toks) (fun b o e => Heap.get?_push_of_some _ e), turn_list a _, ⟨_, Heap.get?_push_size _ rfl, rfl, rfl⟩, ?_, q⟩
    intro b hb
    rw [List.mem_singleton] at hb
    rw [hb]
    exact I1.fpOk (Nat.le_refl _) (I1.hok.fresh (Nat.le_refl _))
  · cases r1
    obtain ⟨xs, hq, q⟩ := q
    obtain ⟨its, rv, p, hz⟩ := I1.tuple hq
    refine wpAny_pyIter_tuple (show s1.heap.IsTuple a its.toArray from p) ⟨_, [s1.heap.objs.size], _, _, H1, rfl, I1.kept (t' := s1.toks) (fun b o e => Heap.get?_push_of_some _ e), turn_tuple a _, ⟨_, Heap.get?_push_size _ rfl, rfl, rfl⟩, ?_, q⟩
    intro b hb
    rw [List.mem_singleton] at hb
    rw [hb]
    exact I1.fpOk (Nat.le_refl _) (I1.hok.fresh (Nat.le_refl _))
theorem walks_lst {K : PySem.W.Frag} {fz : Bool} {F1 H1 : Hp} {a : Addr} {vs : List V} {ds : List D} (h : ∀ F H : Hp, Same F1 F → Same F H → (fz = false → Same H1 H) → SqL K H a vs ∧ RpAll K F vs ds) : Walks K fz F1 H1 (Itl K a) ds := by
  intro F H s1 s2 s3
  obtain ⟨hs, hr⟩ := h F H s1 s2 s3
  refine ⟨fun i hi => ?_, ⟨vs, hs, by rw [hr.length]; exact Nat.le_refl _⟩, fun i x H' hi y => ?_⟩
  · exact ⟨vs, vs[i]'(by rw [hr.length]; exact hi), hs, List.getElem?_eq_getElem _⟩
  · obtain ⟨rfl, y⟩ := y
    obtain ⟨d, e1, e2⟩ := hr.getV (y vs hs)
    exact ⟨F, d, .refl s2, e1, e2⟩
theorem walks_tup {K : PySem.W.Frag} {fz : Bool} {F1 H1 : Hp} {a : Addr} {vs : List V} {ds : List D} (h : ∀ F H : Hp, Same F1 F → Same F H → (fz = false → Same H1 H) → SqT K H a vs ∧ RpAll K F vs ds) : Walks K fz F1 H1 (Itt K a) ds := by
  intro F H s1 s2 s3
  obtain ⟨hs, hr⟩ := h F H s1 s2 s3
  refine ⟨fun i hi => ?_, ⟨vs, hs, by rw [hr.length]; exact Nat.le_refl _⟩, fun i x H' hi y => ?_⟩
  · exact ⟨vs, vs[i]'(by rw [hr.length]; exact hi), hs, List.getElem?_eq_getElem _⟩
  · obtain ⟨rfl, y⟩ := y
    obtain ⟨d, e1, e2⟩ := hr.getV (y vs hs)
    exact ⟨F, d, .refl s2, e1, e2⟩
theorem iSeq_some {ρ : Rho} {ds : List D} (h : iSeq f ρ = some ds) : f ρ = some (.list ds) ∨ f ρ = some (.tuple ds) := by
  unfold iSeq at h
  split at h
  · next e => cases h; exact .inl e
  · next e => cases h; exact .inr e
  · cases h
/-- a frozen list or tuple -/
theorem i_seq (hl : PE X l (tF X.K own f)) : PI X tg l (tI X.K own true (iSeq f)) := by
  refine pi_weak (pi_any hl) ?_
  rintro σ H R ⟨B, F0, ρ, F, re, ds, e, q⟩
  rcases iSeq_some e with e | e
  · refine ⟨B, F0, ρ, F, re, _, e, fun v F1 H1 g1 r1 => ?_⟩
    have r1 : Rp X.K F1 v (.list ds) := r1
    cases r1 with
    | @lst a vs ds k1 k2 k3 =>
      exact ⟨a, rfl, .inl ⟨vs, .of (g1.fh _ _ k1), q _ F1 H1 g1 (walks_lst fun F2 H2 s1 s2 _ => ⟨.of (s2 _ _ (s1 _ _ k1)), k3.mono s1⟩)⟩⟩
  · refine ⟨B, F0, ρ, F, re, _, e, fun v F1 H1 g1 r1 => ?_⟩
    have r1 : Rp X.K F1 v (.tuple ds) := r1
    cases r1 with
    | @tup a vs ds k1 k2 k3 =>
      exact ⟨a, rfl, .inr ⟨vs, .of (g1.fh _ _ k1), q _ F1 H1 g1 (walks_tup fun F2 H2 s1 s2 _ => ⟨.of (s2 _ _ (s1 _ _ k1)), k3.mono s1⟩)⟩⟩
/-- a borrowed one -/
theorem i_seqB (hl : PE X l (tB X.K own f)) : PI X tg l (tI X.K own false (iSeq f)) := by
  refine pi_weak (pi_any hl) ?_
  rintro σ H R ⟨B, F0, ρ, F, re, ds, e, q⟩
  rcases iSeq_some e with e | e
  · refine ⟨B, F0, ρ, F, re, _, e, fun v F1 H1 g1 r1 => ?_⟩
    obtain ⟨a, vs, rfl, k1, k2, k3⟩ := Br.lst g1.fh r1
    exact ⟨a, rfl, .inl ⟨vs, .of k1, q _ F1 H1 g1 (walks_lst fun F2 H2 s1 s2 s3 => ⟨.of (s3 rfl _ _ k1), k3.mono s1⟩)⟩⟩
  · refine ⟨B, F0, ρ, F, re, _, e, fun v F1 H1 g1 r1 => ?_⟩
    obtain ⟨a, vs, rfl, k0, k1, k2, k3⟩ := Br.tup g1.fh r1
    exact ⟨a, rfl, .inr ⟨vs, .of k1, q _ F1 H1 g1 (walks_tup fun F2 H2 s1 s2 s3 => ⟨.of (s3 rfl _ _ k1), k3.mono s1⟩)⟩⟩
theorem rng_len (lo : Int) (n : Nat) : (rng lo n).length = n := by unfold rng; rw [List.length_map, List.length_range]
theorem rng_at {lo : Int} {n i : Nat} (h : i < n) : (rng lo n)[i]? = some (.int (lo + (i : Nat))) := by
  unfold rng
  rw [List.getElem?_map, List.getElem?_range h]
  rfl
theorem walks_rng {K : PySem.W.Frag} {fz : Bool} {F1 H1 : Hp} {lo : Int} {n : Nat} : Walks K fz F1 H1 (Itr lo n) (rng lo n) := by
  intro F H s1 s2 s3
  rw [rng_len]
  refine ⟨fun i hi => hi, Nat.le_refl n, fun i x H' hi y => ?_⟩
  obtain ⟨rfl, rfl⟩ := y
  exact ⟨F, _, .refl s2, rng_at hi, .int _⟩
section
variable {a b : Expr} {fa fb : Ex} {p pos : Pos}
theorem i_r1 {fz : Bool} (hm : X.mg "range" = none) (ha : PE X a (tF X.K own fa)) (hg : Gl X "range" := by rfl) (hs : starEach [a] X.env = [(false, eval a X.env)] := by rfl) : PI X tg (.Call (.Name "range" p) [a] [] pos) (tI X.K own fz (iR1 fa)) := by
  refine pi_weak (pi_range1 hg hm (a_cons ha a_nil hs) hs) ?_
  rintro σ H R ⟨B, F0, ρ, F, re, ds, e, q⟩
  unfold iR1 at e
  split at e
  · next j e1 =>
    split at e <;> cases e
    rename_i hj
    refine ⟨B, F0, ρ, F, re, [.int j], by simp [xCons, xNil, e1], fun vs F1 H1 g1 r1 => ?_⟩
    cases r1 with
    | cons r t =>
      cases r
      cases t
      exact ⟨j, rfl, by omega, by omega, q _ F1 H1 g1 walks_rng⟩
  · cases e
theorem i_r2 {fz : Bool} (hm : X.mg "range" = none) (ha : PE X a (tF X.K own fa)) (hb : PE X b (tF X.K own fb)) (hg : Gl X "range" := by rfl) (hs : starEach [a, b] X.env = [(false, eval a X.env), (false, eval b X.env)] := by rfl) (hs2 : starEach [b] X.env = [(false, eval b X.env)] := by rfl) :
    PI X tg (.Call (.Name "range" p) [a, b] [] pos) (tI X.K own fz (iR2 fa fb)) := by
  refine pi_weak (pi_range2 hg hm (a_cons ha (a_cons hb a_nil hs2) (by rw [hs, hs2])) hs hs2) ?_
  rintro σ H R ⟨B, F0, ρ, F, re, ds, e, q⟩
  unfold iR2 at e
  split at e
  · next i j e1 e2 =>
    split at e <;> cases e
    rename_i hj
    refine ⟨B, F0, ρ, F, re, [.int i, .int j], by simp [xCons, xNil, e1, e2], fun vs F1 H1 g1 r1 => ?_⟩
    cases r1 with
    | cons r t =>
      cases r
      cases t with
      | cons r t =>
        cases r
        cases t
        exact ⟨i, j, rfl, by omega, q _ F1 H1 g1 walks_rng⟩
  · cases e
theorem zipD_at : ∀ {a b : List D} {i : Nat} {x y : D}, a[i]? = some x → b[i]? = some y → (zipD a b)[i]? = some (.tuple [x, y])
  | [], _, i, _, _, h, _ => by simp at h
  | _ :: _, [], i, _, _, _, h => by simp at h
  | a :: r, b :: s, 0, x, y, h1, h2 => by
    simp at h1 h2
    rw [zipD, h1, h2]
    rfl
  | a :: r, b :: s, i + 1, x, y, h1, h2 => by
    rw [zipD]
    exact zipD_at (i := i) (by simpa using h1) (by simpa using h2)
theorem zipD_len : ∀ {a b : List D}, (zipD a b).length = min a.length b.length
  | [], _ => by simp [zipD]
  | _ :: _, [] => by simp [zipD]
  | a :: r, b :: s => by rw [zipD, List.length_cons, zipD_len, List.length_cons, List.length_cons]; omega
/-- for a, b in zip(x, y) -/
theorem i_zip {elts : List Expr} {kk : Nat} {tpos : Pos} (hm : X.mg "zip" = none) (ha : PE X a (tB X.K own fa)) (hb : PE X b (tB X.K own fb)) (hg : Gl X "zip" := by rfl) (hs : starEach [a, b] X.env = (false, eval a X.env) :: starEach [b] X.env := by rfl)
    (hs2 : starEach [b] X.env = (false, eval b X.env) :: starEach [] X.env := by rfl) (hpl : ((backTo pos (starEach [b] X.env)).any fun x => x.fst) = false := by rfl) :
    PI X (.Tuple elts kk tpos) (.Call (.Name "zip" p) [a, b] [] pos) (tI X.K own false (iZip2 fa fb)) := by
  refine pi_weak (RZ.pi_zipA hg hm (ab_cons ha (ab_cons hb ab_nil hs2) hs) hs hpl) ?_
  rintro σ H R ⟨B, F0, ρ, F, re, ds, e, q⟩
  unfold iZip2 at e
  split at e <;> cases e
  · next x y e1 e2 =>
    refine ⟨B, F0, ρ, F, re, [.list x, .list y], by simp [xCons, xNil, e1, e2], fun vs F1 H1 g1 r1 => ?_⟩
    obtain ⟨v, w, rfl, b1, b2⟩ := br2 r1
    obtain ⟨a, vs, rfl, k1, k2, k3⟩ := b1.lst g1.fh
    obtain ⟨b, ws, rfl, l1, l2, l3⟩ := b2.lst g1.fh
    refine ⟨a, b, vs, ws, rfl, .inl ⟨.of k1, .of l1, q _ F1 H1 g1 ?_⟩⟩
    intro F2 H2 s1 s2 s3
    have k1' : SqL X.K H2 a vs := .of (s3 rfl _ _ k1)
    have l1' : SqL X.K H2 b ws := .of (s3 rfl _ _ l1)
    have hl : (zipD x y).length = min vs.length ws.length := by rw [zipD_len, k3.length, l3.length]
    refine ⟨fun i hi => ?_, ⟨vs, ws, k1', l1', by omega⟩, fun i z H' hi yl => ?_⟩
    · exact ⟨vs, ws, vs[i]'(by omega), ws[i]'(by omega), k1', l1', List.getElem?_eq_getElem _, List.getElem?_eq_getElem _⟩
    · obtain ⟨T, u, t, rfl, hT, rfl, y1, y2⟩ := yl
      obtain ⟨d1, z1, z2⟩ := k3.getV (y1 _ k1')
      obtain ⟨d2, z3, z4⟩ := l3.getV (y2 _ l1')
      have g2 : Grow F2 H2 (upd F2 T (.tup [u, t])) (upd H2 T (.tup [u, t])) := .new s2 hT
      exact ⟨_, _, g2, zipD_at z1 z3, .tup upd_same (show 2 ≤ LIM by decide) (.cons (Rp.mono (s1.trans g2.ff) z2) (.cons (Rp.mono (s1.trans g2.ff) z4) .nil))⟩
  · next x y e1 e2 =>
    refine ⟨B, F0, ρ, F, re, [.tuple x, .tuple y], by simp [xCons, xNil, e1, e2], fun vs F1 H1 g1 r1 => ?_⟩
    obtain ⟨v, w, rfl, b1, b2⟩ := br2 r1
    obtain ⟨a, vs, rfl, k0, k1, k2, k3⟩ := b1.tup g1.fh
    obtain ⟨b, ws, rfl, l0, l1, l2, l3⟩ := b2.tup g1.fh
    refine ⟨a, b, vs, ws, rfl, .inr ⟨.of k1, .of l1, q _ F1 H1 g1 ?_⟩⟩
    intro F2 H2 s1 s2 s3
    have k1' : SqT X.K H2 a vs := .of (s3 rfl _ _ k1)
    have l1' : SqT X.K H2 b ws := .of (s3 rfl _ _ l1)
    have hl : (zipD x y).length = min vs.length ws.length := by rw [zipD_len, k3.length, l3.length]
    refine ⟨fun i hi => ?_, ⟨vs, ws, k1', l1', by omega⟩, fun i z H' hi yl => ?_⟩
    · exact ⟨vs, ws, vs[i]'(by omega), ws[i]'(by omega), k1', l1', List.getElem?_eq_getElem _, List.getElem?_eq_getElem _⟩
    · obtain ⟨T, u, t, rfl, hT, rfl, y1, y2⟩ := yl
      obtain ⟨d1, z1, z2⟩ := k3.getV (y1 _ k1')
      obtain ⟨d2, z3, z4⟩ := l3.getV (y2 _ l1')
      have g2 : Grow F2 H2 (upd F2 T (.tup [u, t])) (upd H2 T (.tup [u, t])) := .new s2 hT
      exact ⟨_, _, g2, zipD_at z1 z3, .tup upd_same (show 2 ≤ LIM by decide) (.cons (Rp.mono (s1.trans g2.ff) z2) (.cons (Rp.mono (s1.trans g2.ff) z4) .nil))⟩
end

/-! ### for, while -/
section
variable {body : List Stmt} {fi : It1} {gt : Tg} {ts : List Nat} {g : Sx} {pos : Pos}
theorem s_for (hc : X.calm = true) (hi : PI X tg l (tI X.K own true fi)) (hg : PG X tg (tG X.K own gt ts)) (hb : PSs X body (tS X.K own g)) (hp : PassesOwn (model X.prog X.w) X.A X.env X.xe := by exact PassesOwn.never)
    (hs : ∀ x, foldedSetIterable l X.env x = pure x := by intro _; rfl) : PS X (.For tg l body [] pos) (tS X.K own (sFor fi gt g)) := by
  refine ps_weak (ps_for hp hc hi hg hb hs) ?_
  rintro Dn σ H ⟨B, F0, ρ, F, re, o, e, q⟩
  unfold sFor at e
  cases e1 : fi ρ with
  | none => rw [e1] at e; cases e
  | some ds =>
    rw [e1] at e
    dsimp only [Option.bind_some] at e
    refine ⟨B, F0, ρ, F, re, ds, e1, fun J F1 H1 g1 wk => ?_⟩
    refine ⟨fun i m σ H => ∃ ρ F', m = ds.length - i ∧ i ≤ ds.length ∧ Same F1 F' ∧ RE X.K B F0 own ρ σ F' H ∧ forGo gt g (ds.drop i) ρ = some o, ⟨_, ρ, F1, rfl, Nat.zero_le _, .refl _, re.grow g1, e⟩, ?_⟩
    rintro i m σ2 H2 ⟨ρ2, F2, rfl, hi, s2, re2, e2⟩
    obtain ⟨w1, w2, w3⟩ := wk F2 H2 s2 re2.fh (fun z => nomatch z)
    by_cases hlt : i < ds.length
    · refine .inr ⟨w1 i hlt, fun σ' H' => ∃ ρ F', Same F1 F' ∧ RE X.K B F0 own ρ σ' F' H' ∧ forGo gt g (ds.drop (i + 1)) ρ = some o, ?_, ?_⟩
      · rintro σ' H' ⟨ρ', F', h1, h2, h3⟩
        exact ⟨ds.length - (i + 1), by omega, ρ', F', rfl, hlt, h1, h2, h3⟩
      · intro x H3 y
        obtain ⟨F3, d, g3, ed, rd⟩ := w3 i x H3 hlt y
        rw [List.drop_eq_getElem_cons hlt, forGo] at e2
        have ed' : ds[i] = d := by
          rw [List.getElem?_eq_getElem hlt] at ed
          exact Option.some.inj ed
        rw [ed'] at e2
        cases e4 : gt d ρ2 with
        | none => rw [e4] at e2; cases e2
        | some ρ4 =>
          rw [e4] at e2
          dsimp only [Option.bind_some] at e2
          refine ⟨B, F0, ρ2, F3, re2.grow g3, d, rd, ρ4, e4, fun σ4 re4 _ _ => ?_⟩
          have s3 : Same F1 F3 := s2.trans g3.ff
          cases e5 : g ρ4 with
          | none => rw [e5] at e2; cases e2
          | some o5 =>
            rw [e5] at e2
            refine ⟨B, F0, ρ4, F3, re4, o5, e5, ?_⟩
            cases o5 with
            | nx ρ5 => exact fun σ5 F5 H5 s5 r5 => ⟨ρ5, F5, s3.trans s5, r5, e2⟩
            | ct ρ5 => exact fun σ5 F5 H5 s5 r5 => ⟨ρ5, F5, s3.trans s5, r5, e2⟩
            | bk ρ5 =>
              cases e2
              exact fun σ5 F5 H5 s5 r5 => q σ5 F5 H5 ((g1.ff.trans s3).trans s5) r5
            | rt d5 =>
              cases e2
              exact q
    · have ei : i = ds.length := by omega
      subst ei
      refine .inl ⟨w2, ?_⟩
      rw [List.drop_length, forGo] at e2
      cases e2
      exact q σ2 F2 H2 (g1.ff.trans s2) re2
theorem s_while {c : Expr} {fc : Ex} {n : Nat} (hc : PT X c (tT X.K own fc)) (hb : PSs X body (tS X.K own g)) (hp : PassesOwn (model X.prog X.w) X.A X.env X.xe := by exact PassesOwn.never) : PS X (.While c body [] pos) (tS X.K own (sWhile n fc g)) := by
  refine ps_weak (ps_while hp hc hb) ?_
  rintro Dn σ H ⟨B, F0, ρ, F, re, o, e, q⟩
  refine ⟨fun m σ H => ∃ ρ F', Same F F' ∧ RE X.K B F0 own ρ σ F' H ∧ whileGo fc g m ρ = some o, ⟨n, ρ, F, .refl _, re, e⟩, ?_⟩
  rintro m σ2 H2 ⟨ρ2, F2, s2, re2, e2⟩
  cases m with
  | zero => cases e2
  | succ m =>
    rw [whileGo] at e2
    split at e2
    · next ec =>
      cases e2
      exact ⟨B, F0, ρ2, F2, re2, false, ec, fun F3 H3 g3 => iteF (q σ2 F3 H3 (s2.trans g3.ff) (re2.grow g3))⟩
    · next ec =>
      refine ⟨B, F0, ρ2, F2, re2, true, ec, fun F3 H3 g3 => iteT ⟨fun σ' H' => ∃ ρ F', Same F F' ∧ RE X.K B F0 own ρ σ' F' H' ∧ whileGo fc g m ρ = some o, fun σ' H' h => ⟨m, Nat.lt_succ_self _, h⟩, ?_⟩⟩
      have s3 : Same F F3 := s2.trans g3.ff
      cases e5 : g ρ2 with
      | none => rw [e5] at e2; cases e2
      | some o5 =>
        rw [e5] at e2
        refine ⟨B, F0, ρ2, F3, re2.grow g3, o5, e5, ?_⟩
        cases o5 with
        | nx ρ5 => exact fun σ5 F5 H5 s5 r5 => ⟨ρ5, F5, s3.trans s5, r5, e2⟩
        | ct ρ5 => exact fun σ5 F5 H5 s5 r5 => ⟨ρ5, F5, s3.trans s5, r5, e2⟩
        | bk ρ5 =>
          cases e2
          exact fun σ5 F5 H5 s5 r5 => q σ5 F5 H5 (s3.trans s5) r5
        | rt d5 =>
          cases e2
          exact q
    · cases e2
end

/-! ### comprehensions -/
section
variable {elt : Expr} {ifs : List Expr} {scope : Scope} {ow : List (Str × Nat)} {fi : It1} {fz : Bool} {gt : Tg} {ft fe : Ex} {pos spos : Pos}
theorem pts_weak {t t' : TT} (h : PTs X ifs t) (w : ∀ σ H Q, t' σ H Q → t σ H Q) : PTs X ifs t' := ⟨fun pins s σ H Q I q => h.run pins s σ H Q I (w _ _ _ q)⟩
theorem t_yes : PTs X [] (tT X.K own xYes) := by
  refine pts_weak pts_nil ?_
  rintro σ H Q ⟨B, F0, ρ, F, re, b, e, q⟩
  cases e
  exact q F H (.refl re.fh)
theorem t_one {c : Expr} (h : PT X c (tT X.K own ft)) : PTs X [c] (tT X.K own ft) := pts_one h
/-- the reading of a comprehension -/
theorem comp_ok {K : PySem.W.Frag} {vs : List Nat} {σ : L2.St} {H : Hp} {Q : VK} (h : tN K own (xComp fi vs gt ft fe) σ H Q) : tLc (tI K own fz fi) (tG K own gt vs) (tT K own ft) (tF K own fe) vs σ H Q := by
  obtain ⟨B, F0, ρ, F, re, d, e, q⟩ := h
  unfold xComp at e
  cases e1 : fi ρ with
  | none => rw [e1] at e; cases e
  | some ds =>
    rw [e1] at e
    dsimp only [Option.bind_some] at e
    split at e
    · rename_i hlim
      cases e2 : compGo gt ft fe (wipeR ρ vs) ds with
      | none => rw [e2] at e; cases e
      | some rs =>
        rw [e2] at e
        cases e
        refine ⟨B, F0, ρ, F, re, ds, e1, fun J F1 H1 g1 wk Dd hD => ?_⟩
        have rw0 := (re.grow g1).wiped vs
        have hF : F1 Dd = none := g1.fh.free hD
        have hB : B Dd = none := rw0.bh.free hD
        have apart : ∀ (j : Nat) (e : D), (wipeR ρ vs)[j]? = some (some e) → own j = true → (wipe σ vs)[j]? = some (some (.ref Dd)) → False := rw0.other hD
        refine ⟨fun i m H => ∃ F2 acc ads, m = ds.length - i ∧ i ≤ ds.length ∧ RE K B F0 own (wipeR ρ vs) (wipe σ vs) F2 H ∧ Same F1 F2 ∧ Same H1 H ∧ (∀ a o, H1 a = some o → F2 a = F1 a) ∧ H Dd = some (.lst acc) ∧ F2 Dd = none ∧ RpAll K F2 acc ads ∧ acc.length ≤ i ∧
          (compGo gt ft fe (wipeR ρ vs) (ds.drop i)).map (ads ++ ·) = some rs, ⟨_, F1, [], [], rfl, Nat.zero_le _, rw0.aside hF hB apart, .refl _, same_upd hD, fun _ _ _ => rfl, upd_same, hF, .nil, Nat.le_refl _, ?_⟩, ?_⟩
        · rw [List.drop_zero, e2]
          rfl
        · rintro i m H2 ⟨F2, acc, ads, rfl, hi, re2, s1, s2, nf, hDd, fD, ra, hacc, ec⟩
          obtain ⟨w1, w2, w3⟩ := wk F2 H2 s1 re2.fh (fun _ => s2)
          by_cases hlt : i < ds.length
          · refine .inr ⟨w1 i hlt, fun H' => ∃ F2 acc ads, RE K B F0 own (wipeR ρ vs) (wipe σ vs) F2 H' ∧ Same F1 F2 ∧ Same H1 H' ∧ (∀ a o, H1 a = some o → F2 a = F1 a) ∧ H' Dd = some (.lst acc) ∧ F2 Dd = none ∧ RpAll K F2 acc ads ∧ acc.length ≤ i + 1 ∧
              (compGo gt ft fe (wipeR ρ vs) (ds.drop (i + 1))).map (ads ++ ·) = some rs, ?_, ?_⟩
            · rintro H' ⟨F', acc', ads', h⟩
              exact ⟨ds.length - (i + 1), by omega, F', acc', ads', rfl, hlt, h⟩
            · intro x H3 y
              obtain ⟨F3, dd, g3, ed, rd⟩ := w3 i x H3 hlt y
              have ed' : ds[i] = dd := by
                rw [List.getElem?_eq_getElem hlt] at ed
                exact Option.some.inj ed
              rw [List.drop_eq_getElem_cons hlt, compGo, ed'] at ec
              cases e4 : gt dd (wipeR ρ vs) with
              | none => rw [e4] at ec; cases ec
              | some ρ4 =>
                rw [e4] at ec
                dsimp only [Option.bind_some] at ec
                refine ⟨B, F0, _, F3, re2.grow g3, dd, rd, ρ4, e4, fun σ4 re4 hl4 h4 => ⟨?_, ?_⟩⟩
                · have := wipe_eq (vs := vs) hl4 h4
                  rw [this]
                  apply wipe_eq (wipe_length _ _)
                  intro j hj
                  exact wipe_at hj
                · cases e5 : ft ρ4 with
                  | none => rw [e5] at ec; cases ec
                  | some db =>
                    rw [e5] at ec
                    have fin : ∀ F5 H5, Grow F2 H2 F5 H5 → Same F1 F5 ∧ Same H1 H5 ∧ (∀ a o, H1 a = some o → F5 a = F1 a) ∧ H5 Dd = some (.lst acc) ∧ F5 Dd = none ∧ RpAll K F5 acc ads := fun F5 H5 g5 =>
                      ⟨s1.trans g5.ff, s2.trans g5.hh, fun a o q => (g5.nf a o (s2 _ _ q)).trans (nf a o q), g5.hh _ _ hDd, (g5.nf _ _ hDd).trans fD, ra.mono g5.ff⟩
                    cases db <;> try (cases ec; done)
                    next b =>
                    cases b with
                    | false =>
                      refine ⟨B, F0, ρ4, F3, re4, false, e5, fun F5 H5 g5 => iteF ?_⟩
                      obtain ⟨a1, a2, a3, a4, a5, a6⟩ := fin F5 H5 (g3.trans g5)
                      exact ⟨F5, acc, ads, re2.grow (g3.trans g5), a1, a2, a3, a4, a5, a6, by omega, ec⟩
                    | true =>
                      refine ⟨B, F0, ρ4, F3, re4, true, e5, fun F5 H5 g5 => iteT ?_⟩
                      cases e6 : fe ρ4 with
                      | none => rw [e6] at ec; cases ec
                      | some dy =>
                        rw [e6] at ec
                        dsimp only [Option.bind_some] at ec
                        refine ⟨B, F0, ρ4, F5, re4.grow g5, dy, e6, fun vy F6 H6 g6 r6 => ?_⟩
                        obtain ⟨a1, a2, a3, a4, a5, a6⟩ := fin F6 H6 ((g3.trans g5).trans g6)
                        refine ⟨acc, a4, ?_, F6, acc ++ [vy], ads ++ [dy], (re2.grow ((g3.trans g5).trans g6)).aside a5 hB apart, a1, ?_, a3, upd_same, a5, a6.append (.cons r6 .nil), ?_, ?_⟩
                        · exact Nat.lt_of_le_of_lt (Nat.le_trans hacc (Nat.le_trans hi hlim)) lim_lt
                        · intro b o z
                          rw [upd_ne (ne_of_none z hD)]
                          exact a2 _ _ z
                        · rw [List.length_append]
                          exact Nat.succ_le_succ hacc
                        · rw [← ec, Option.map_map]
                          congr 1
                          funext z
                          simp
          · have ei : i = ds.length := by omega
            subst ei
            rw [List.drop_length, compGo, Option.map_some, List.append_nil] at ec
            cases ec
            refine .inl ⟨w2, q _ F2 H2 (g1.trans ⟨s2, s1, re2.fh, nf⟩) ⟨Dd, acc, rs, rfl, rfl, g1.hh.free hD, fD, hDd, Nat.le_trans hacc hlim, ra⟩⟩
    · cases e
theorem n_comp {vs : List Nat} (hc : X.calm = true) (hN : X.N.Nodup) (hi : PI X tg l (tI X.K own fz fi)) (ok : BlkOk X.N X.env.scope scope ow) (hvs : ow.map (·.2) = vs)
    (hg : ∀ (s : Shared) (H : Hp) (C : Addr) (cl : List (Str × Addr)) (fp : List Addr), PG (X.blk s H scope (compEnvC scope cl C X.env) fp) tg (tG X.K own gt vs))
    (ht : ∀ (s : Shared) (H : Hp) (C : Addr) (cl : List (Str × Addr)) (fp : List Addr), PTs (X.blk s H scope (compEnvC scope cl C X.env) fp) ifs (tT X.K own ft))
    (he : ∀ (s : Shared) (H : Hp) (C : Addr) (cl : List (Str × Addr)) (fp : List Addr), PE (X.blk s H scope (compEnvC scope cl C X.env) fp) elt (tF X.K own fe)) (hs : ∀ x, foldedSetIterable l X.env x = pure x := by intro _; rfl) :
    PE X (.ListComp elt [⟨tg, l, ifs, 0⟩] scope pos) (tN X.K own (xComp fi vs gt ft fe)) := by
  subst hvs
  exact pe_weak (pe_lc hc hN hi ok hg ht he hs) fun _ _ _ h => comp_ok h
/-- y = [..], y a plain local -/
theorem s_setC {vs : List Nat} {i : Nat} {y : Str} {py : Pos} (hc : X.calm = true) (hN : X.N.Nodup) (hi : PI X tg l (tI X.K own fz fi)) (ok : BlkOk X.N X.env.scope scope ow) (hvs : ow.map (·.2) = vs)
    (hg : ∀ (s : Shared) (H : Hp) (C : Addr) (cl : List (Str × Addr)) (fp : List Addr), PG (X.blk s H scope (compEnvC scope cl C X.env) fp) tg (tG X.K own gt vs))
    (ht : ∀ (s : Shared) (H : Hp) (C : Addr) (cl : List (Str × Addr)) (fp : List Addr), PTs (X.blk s H scope (compEnvC scope cl C X.env) fp) ifs (tT X.K own ft))
    (he : ∀ (s : Shared) (H : Hp) (C : Addr) (cl : List (Str × Addr)) (fp : List Addr), PE (X.blk s H scope (compEnvC scope cl C X.env) fp) elt (tF X.K own fe))
    (hy : X.N[i]? = some y := by rfl) (hyl : X.env.scope.names.lookup y = some .local := by rfl) (hl : (py.line == pos.line) = true := by rfl) (hk : X.env.scope.kind = .function := by rfl)
    (ha : (scope.names.any fun (n, k) => n == y && (k == .local || k == .cell)) = false := by rfl) (hl2 : spos.line = py.line := by rfl)
    (hs : ∀ x, foldedSetIterable l X.env x = pure x := by intro _; rfl) :
    PS X (.Assign [.Name y py] (.ListComp elt [⟨tg, l, ifs, 0⟩] scope pos) spos) (tS X.K own (sSet i (xComp fi vs gt ft fe))) := by
  subst hvs
  have h := ps_setLc (spos := spos) hc hN hy hyl (sw_true (l := spos.line) hk hyl hl ha) hi ok hg ht he hs
  cases ho : own i with
  | true => exact s_setTN h (fun _ _ _ h => comp_ok h) ho
  | false =>
    refine ps_weak h ?_
    rintro Dn σ H ⟨B, F0, ρ, F, re, o, e, q⟩
    obtain ⟨d, e1, rfl⟩ := sSet_some e
    refine comp_ok ⟨B, F0, ρ, F, re, d, e1, ?_⟩
    rintro v F' H' g ⟨a, vs, ds, rfl, rfl, h0, hf, hh, hl, ra⟩
    have s1 : Same F' (upd F' a (.lst vs)) := same_upd hf
    have gg : Grow F H (upd F' a (.lst vs)) H' := ⟨g.hh, g.ff.trans s1, fun b o e => by
      by_cases hb : b = a
      · subst hb
        rw [upd_same] at e
        rw [hh]
        exact e
      · rw [upd_ne hb] at e
        exact g.fh _ _ e, fun b o e => by
      rw [upd_ne (ne_of_none e h0)]
      exact g.nf _ _ e⟩
    exact q _ _ H' gg.ff ((re.grow gg).put ho (.lst upd_same hl (ra.mono s1)))
end
end

/-! ### defs -/
/-- what a def promises: G of the data -/
def spG (K : PySem.W.Frag) (G : List D → Option D) : Sp := fun vs H Q _ => ∃ F ds d, Same F H ∧ RpAll K F vs ds ∧ G ds = some d ∧ ∀ v F' H', Grow F H F' H' → Rp K F' v d → Q v H'
section
variable {X : Cx} {own : Nat → Bool} {k : Nat} {f : Addr} {fd : FuncData} {ps : List Str} {G : List D → Option D} {x : Str} {p pos : Pos} {e : Expr} {es : List Expr} {g : Rho → Option (List D)}
theorem e_call (F : FnOk X.prog X.w X.K X.mg X.base CX0 k f fd ps (spG X.K G)) (hr : Room k X.A) (hm : X.mg x = some (.ref f)) (hk : PySem.W.keepIn X.K (.ref f) = true) (hb : Binds X.K fd ps []) (ha : PA X (e :: es) (tA X.K own g)) (hg : Gl X x := by rfl)
    (hdb : (x == ("__debug__" : Str)) = false := by decide) (he : starEach (e :: es) X.env = (false, eval e X.env) :: starEach es X.env := by rfl) (hpl : (backTo pos (starEach es X.env)).any (·.1) = false := by rfl) :
    PE X (.Call (.Name x p) (e :: es) [] pos) (tF X.K own (xCall G g)) := by
  refine pe_weak (pe_call F hr hg hm hk hb .nil pass0 ha hdb he hpl) ?_
  rintro σ H Q ⟨B, F0, ρ, F, re, d, e, q⟩
  obtain ⟨ds, e1, e2⟩ := xCall_some e
  refine ⟨B, F0, ρ, F, re, ds, e1, fun vs F1 H1 g1 r1 => ?_⟩
  show spG X.K G (vs ++ []) H1 Q E0
  rw [List.append_nil]
  exact ⟨F1, ds, d, g1.fh, r1, e2, fun v F2 H2 g2 r2 => q v F2 H2 (g1.trans g2) r2⟩
end
section
variable {P : Program} {w : World} {K : PySem.W.Frag} {mg : Str → Option Value} {base : Heap}
theorem start_re {own : Nat → Bool} {N : List Str} {F H : Hp} {vs : List V} {ds : List D} (fh : Same F H) (r : RpAll K F vs ds) (ho : ∀ i, i < ds.length → own i = false) : RE K H F own (ds.map some ++ List.replicate (N.length - ds.length) none) (L2.start N vs) F H := by
  have key : ∀ (i : Nat) (d : D), (ds.map some ++ List.replicate (N.length - ds.length) none)[i]? = some (some d) → ds[i]? = some d := fun i d h => by
    by_cases hi : i < ds.length
    · rw [List.getElem?_append_left (by simpa using hi), List.getElem?_map] at h
      cases e : ds[i]? with
      | none => rw [e] at h; cases h
      | some x => rw [e] at h; cases h; rfl
    · rw [List.getElem?_append_right (by simpa using hi), List.getElem?_replicate] at h
      split at h <;> cases h
  refine ⟨fh, .refl _, .refl _, fun _ _ _ => rfl, ?_, fun i d h _ => ?_, fun i d h hi => ?_, fun i j d e a h1 h2 o1 _ _ _ => ?_⟩
  · unfold L2.start
    simp [r.length]
  · obtain ⟨v, h1, h2⟩ := r.get (key i d h)
    refine ⟨v, ?_, h2⟩
    unfold L2.start
    rw [List.getElem?_append_left (by simpa using (List.getElem?_eq_some_iff.mp h1).1), List.getElem?_map, h1]
    rfl
  · have := ho i (List.getElem?_eq_some_iff.mp (key i d h)).1
    rw [hi] at this
    cases this
  · have := ho i (List.getElem?_eq_some_iff.mp (key i d h1)).1
    rw [o1] at this
    cases this
/-- THE RULE for a def: its body's derivation -/
theorem fn_run {x qual : Str} {st : Stmt} {f : Addr} {fd : FuncData} {N ps : List Str} {k : Nat} {own : Nat → Bool} {g : Sx} {G : List D → Option D} (F : Fun K x qual st f fd) (S : FnScope N ps (defScope st)) (ho : ∀ i, i < ps.length → own i = false)
    (hG : ∀ ds d, G ds = some d → runB N.length ps.length g ds = some d)
    (hb : ∀ (cdv : Value) (A : Around) (outer : List Env) (s : Shared) (H : Hp) (E : XK), Room k (A.deeper (envOfC qual (defScope st) s.heap.objs.size f cdv)) →
      PSs (cxOf CX0 P w K mg base N qual (defScope st) f cdv A outer s H E).nox (defBody st) (tS K own g)) : FnOk P w K mg base CX0 (k + 1) f fd ps (spG K G) := by
  refine F.ok S (fun vs H Q E h => ?_) (fun cdv A outer s H vs Q E hr h => ?_)
  · obtain ⟨F1, ds, d, fh, r, e, _⟩ := h
    rw [r.length]
    exact runB_len (hG ds d e)
  · obtain ⟨F1, ds, d, fh, r, e, q⟩ := h
    refine ⟨_, hb cdv A outer s H E hr, ?_⟩
    have e := hG ds d e
    have hl := runB_len e
    unfold runB at e
    rw [if_pos hl] at e
    cases e1 : g (ds.map some ++ List.replicate (N.length - ds.length) none) with
    | none => rw [e1] at e; cases e
    | some o =>
      rw [e1] at e
      refine ⟨H, F1, _, F1, start_re fh r (fun i hi => ho i (by omega)), o, e1, ?_⟩
      cases o with
      | nx ρ' =>
        cases e
        exact fun σ' F' H' s1 re' => q .non F' H' re'.gr .non
      | rt d' =>
        cases e
        exact q
      | bk ρ' => cases e
      | ct ρ' => cases e
end
end Tw

set_option Elab.async false
set_option linter.all false
set_option maxRecDepth 100000
set_option maxHeartbeats 6400000
namespace Tw
open PySem PySem.Spec PyProof.Rows L2
section
variable {P : Program} {w : World} {A : Around} {E : Value → Shared → Prop} {s : Shared}
/-- an empty set, as the model makes it -/
abbrev soO (w : World) : Obj := { cls := .type "set", dict := none, data := .set #[] 0 (.fresh 0 0 (!w.params.followText "set-order")) }
/-- set(a list of ints): its members, ordered or by the world's word -/
theorem set_of_list {l : Addr} {items : Array Value} (ns : List Int) {Q : Value → Shared → Prop} (hh : A.handled = none) (hl : s.heap.IsList l items) (hit : IntsAre items.toList ns) (hb : ns.length + 1 < scanBound)
    (h : ∀ (h' : Heap) (tk c : Nat), SetR w h' s.heap.objs.size (fun j => decide (j ∈ ns)) c → c ≤ ns.length → (∀ b o, s.heap.get? b = some o → h'.get? b = some o) → Q (.ref s.heap.objs.size) { s with heap := h', toks := tk }) :
    wpAny (model P w) A (call (.type "set") [.ref l]) Q E s := by
  have hsz : items.size = ns.length := by
    rw [← Array.length_toList]
    exact IntsAre.length hit
  obtain ⟨cM, tM, hmro⟩ := F.called_set.mro
  have k1 := F.called_set.made
  have k2 := F.called_set.sub
  refine wpAny_call (codeAny_of_tree (show wpAny _ _ (callAny (.type "set") _) _ _ _ from wpAny_pure ⟨Code.quiet_builtin _ (by decide +kernel), codeAny_builtin F.entry_type_call ?_⟩))
  rw [Around.under_plain (weight_type_call_type "set" [.ref l] []) rfl]
  have k3 := F.called_set.notType
  have k4 := F.called_set.canCreate
  have k5 := F.typeCall_set_1 (.ref l)
  repeat (any_goals (first | assumption | wp_step))
  refine codeAny_mono (code_set_led1 (.ref l) (E := E) (Q₁ := fun v t => v = .ref s.heap.objs.size ∧ t = { s with heap := s.heap.push (soO w) }) ⟨rfl, rfl⟩) fun r t hr => ?_
  cases r with
  | error e => exact hr
  | ok fl =>
    cases fl <;> try exact hr.elim
    obtain ⟨rfl, rfl⟩ := hr
    have gS : (s.heap.push (soO w)).get? s.heap.objs.size = some (soO w) := Heap.get?_push_size _ rfl
    have tS : Shared.TypeIs { s with heap := s.heap.push (soO w) } (.ref s.heap.objs.size) "set" := ⟨_, gS, rfl⟩
    have k6 := F.called_set.init.lookup
    have k7 := F.called_set.init.bind (.ref s.heap.objs.size)
    repeat (any_goals (first | assumption | wp_step))
    refine codeAny_mono (codeAny_call_builtin (R := wants (fun r t => r = .none ∧ ∃ h' tk c, t = { s with heap := h', toks := tk } ∧ SetR w h' s.heap.objs.size (fun j => decide (j ∈ ns)) c ∧ c ≤ ns.length ∧ (∀ b o, s.heap.get? b = some o → h'.get? b = some o)) E)
      F.called_set.init.plain F.entry_set_init (check_set_init_1 tS ?_)) fun r t hr => ?_
    · obtain ⟨⟨oc, od, odt, osl⟩, gL, cL, nL, dL⟩ := hl
      simp only at cL dL
      subst cL dL
      have gL' : (s.heap.push (soO w)).get? l = some { cls := .type "list", dict := od, data := .seq items nL, slots := osl } := Heap.get?_push_of_some _ gL
      have m1 := F.sub_list_set
      have m2 := F.sub_list_frozenset
      have m3 : (Value.type "list" == Value.type "dict") = false := by decide
      have isL : (s.heap.push (soO w)).IsList l items := ⟨_, gL', rfl, nL, rfl⟩
      unfold Builtin.«set.__init__» noKeywords Builtin.Frozenset.updateFrom
      generalize hPI : pyIter = PI
      wp_walk
      subst hPI
      refine wpAny_pyIter_list isL (wpAny_bind (wpAny_runValue ?_))
      have ltl : l < s.heap.objs.size := Heap.lt_size gL
      have z1 : (s.heap.push (soO w)).objs.size = s.heap.objs.size + 1 := Heap.size_push ..
      have ne1 : l ≠ (s.heap.push (soO w)).objs.size := by rw [z1]; exact Nat.ne_of_lt (Nat.lt_succ_of_lt ltl)
      have ne2 : s.heap.objs.size ∉ [(s.heap.push (soO w)).objs.size, l] := by
        rw [z1]
        intro z
        rcases List.mem_cons.mp z with z | z
        · exact Nat.ne_of_lt (Nat.lt_succ_self _) z
        · exact Nat.ne_of_gt ltl (List.mem_singleton.mp z)
      have vals : ∀ (i : Nat) (v : Value), items[i]? = some v → ∃ k t, ns[i]? = some k ∧ v = .int k t := fun i v hv => by
        have hi : i < ns.length := by rw [← hsz]; exact (Array.getElem?_eq_some_iff.mp hv).1
        obtain ⟨t, e⟩ := IntsAre.int_at hit i v (by rw [Array.getElem?_toList]; exact hv)
        refine ⟨ns[i], t, List.getElem?_eq_getElem hi, ?_⟩
        rw [e, List.getD_eq_getElem?_getD, List.getElem?_eq_getElem hi]
        rfl
      have hh3 : A.in1.in1.in1.handled = none := by simp [hh]
      refine set_update_ints ((Walks.list hh3 _ l ne1 items).toS) _ ne2 ns hsz hb vals (items.size - 0) 0 _ (by omega) (Nat.zero_le _) ⟨⟨_, Heap.get?_push_size _ rfl, rfl, rfl⟩, isL.push _⟩ ⟨0, Nat.le_refl 0, setR_new_at (Heap.get?_push_of_some _ gS)⟩ ?_
      rintro ⟨h', g', d', tk', os'⟩ c hm hc hS
      have eg : g' = s.gens := hm.gens
      have ed : d' = s.drawn := hm.drawn
      have eo : os' = s.os := hm.os
      subst eg ed eo
      show wpAny _ _ _ _ _ _
      refine wpAny_pure (show wpAny _ _ (ret Value.none) _ _ _ from wpAny_pure ⟨rfl, h', tk', c, rfl, hS, by omega, fun b o e => ?_⟩)
      have lb : b < s.heap.objs.size := Heap.lt_size e
      refine hm.heap b o ?_ (Heap.get?_push_of_some _ (Heap.get?_push_of_some _ e))
      intro z
      rcases List.mem_cons.mp z with z | z
      · exact Nat.ne_of_lt lb z
      · rw [List.mem_singleton, z1] at z
        exact Nat.ne_of_lt (Nat.lt_succ_of_lt lb) z
    · cases r with
      | error e => exact hr
      | ok fl =>
        cases fl <;> try exact hr.elim
        obtain ⟨rfl, h', tk, c, rfl, hS, hc, hk⟩ := hr
        repeat (any_goals (first | assumption | wp_step))
        exact h _ _ _ hS hc hk
end
end Tw

set_option Elab.async false
set_option linter.all false
set_option maxRecDepth 100000
set_option maxHeartbeats 4000000
namespace Tw
open PySem PySem.Spec PyProof.Rows L2

/-! ### t[::-1] -/
section
variable {prog : Program} {w : World} {A : Around} {E : Value → Shared → Prop} {s : Shared}
theorem back_places (n : Nat) : Builtin.Slice.slicePlaces ((n : Int) - 1) (-1) (-1) = n := by
  unfold Builtin.Slice.slicePlaces
  rw [if_neg (by decide)]
  by_cases h : (n : Int) - 1 > -1
  · rw [if_pos h, show (- -1 : Int) = 1 from rfl, Int.ediv_one]
    omega
  · rw [if_neg h]
    omega
theorem fm_congr {α β : Type} {f g : α → Option β} : ∀ {l : List α}, (∀ x, x ∈ l → f x = g x) → l.filterMap f = l.filterMap g
  | [], _ => rfl
  | x :: r, h => by
    rw [List.filterMap_cons, List.filterMap_cons, h x List.mem_cons_self, fm_congr fun y hy => h y (List.mem_cons_of_mem _ hy)]
theorem back_pick (xs : Array Value) : ((List.range xs.size).filterMap fun (k : Nat) => xs[((xs.size : Int) - 1 + (k : Int) * -1).toNat]?).toArray = xs.toList.reverse.toArray := by
  congr 1
  have e : (List.range xs.size).filterMap (fun (k : Nat) => xs[((xs.size : Int) - 1 + (k : Int) * -1).toNat]?) = ((List.range xs.size).map fun k => xs.size - 1 - k).filterMap (xs[·]?) := by
    rw [List.filterMap_map]
    refine fm_congr fun k hk => ?_
    have := List.mem_range.mp hk
    have e : ((xs.size : Int) - 1 + (k : Int) * -1).toNat = xs.size - 1 - k := by omega
    rw [e]
    rfl
  rw [e, PySem.W.krv_range, List.filterMap_reverse, PySem.W.krv_all]
theorem back_applied {sl : Addr} {t : Tok} {n : Nat} {Q : Int × Int × Nat → Shared → Prop} (hs : s.heap.IsSliceOf sl .none .none (.int (-1) t)) (h : Q ((n : Int) - 1, -1, n) s) : wpAny (model prog w) A (Builtin.Slice.sliceApplied (.ref sl) (pure (n : Int))) Q E s := by
  obtain ⟨os, hos, hcs, hds⟩ := id hs
  unfold Builtin.Slice.sliceApplied Builtin.Slice.sliceFields
  refine wpAny_bind (wpAny_bind (wpAny_field hos hds (x := Value.none) rfl (wpAny_bind (wpAny_field hos hds (x := Value.none) rfl (wpAny_bind (wpAny_field hos hds (x := Value.int (-1) t) rfl (wpAny_pure ?_)))))))
  refine wpAny_bind (slicePart_int ?_)
  show wpAny _ _ (if ((-1 : Int) == 0) = true then _ else _) _ _ s
  rw [if_neg (by decide)]
  refine wpAny_bind (slicePart_none (wpAny_bind (slicePart_none (wpAny_bind (wpAny_pure ?_)))))
  show wpAny _ _ (pure ((n : Int) - 1, (-1 : Int), Builtin.Slice.slicePlaces ((n : Int) - 1) (-1) (-1))) _ _ s
  rw [back_places]
  exact wpAny_pure h
theorem getItem_back {t sl : Addr} {items : Array Value} {tk : Tok} {Q : Value → Shared → Prop} (ht : IsTup s.heap t items) (hs : s.heap.IsSliceOf sl .none .none (.int (-1) tk))
    (h : Q (.ref s.heap.objs.size) { s with heap := s.heap.push { cls := .type "tuple", data := .seq items.toList.reverse.toArray } }) (hsz : items.size ≤ sizeLine) : wpAny (model prog w) A (getItem (.ref t) (.ref sl)) Q E s := by
  have fits : sizeOk (.seq items.toList.reverse.toArray) := by
    show items.toList.reverse.toArray.size ≤ sizeLine
    rw [List.size_toArray, List.length_reverse, Array.length_toList]
    exact hsz
  obtain ⟨os, hos, hcs, hds⟩ := id hs
  have isS : s.TypeIs (.ref sl) "slice" := ⟨os, hos, hcs⟩
  unfold getItem
  try with_reducible refine wpAny_holding ?_
  first | refine wpAny_bind (wpAny_pure ?_) | skip
  refine wpAny_bind (wpAny_sequenceKey ht.typeIs (by decide) (wpAny_bind (wpAny_callSpecial?_slot (name := Str.ofString "__getitem__") ht.typeIs PyProof.Rows.slot_tuple_getitem (wpAny_call_entry PyProof.Rows.slot_tuple_getitem ht.typeIs entry_tuple_getitem ?_ (args_tuple_getitem _ _)))))
  refine (show wpAny _ _ (Builtin.Tuple.tupleItemsOf (.ref t) >>= _) _ _ s from wpAny_bind (tupleItemsOf_ ht (wpAny_bind (wpAny_typeOf isS ?_))))
  rw [if_pos (by decide)]
  refine wpAny_bind (back_applied hs ?_)
  have hno : ((((items.size : Nat) : Int) - 1 == 0) && ((-1 : Int) == 1) && (items.size == items.size)) = false := by simp
  show wpAny _ _ (if ((((items.size : Nat) : Int) - 1 == 0) && ((-1 : Int) == 1) && (items.size == items.size)) = true then _ else _) _ _ s
  rw [hno, if_neg Bool.false_ne_true, back_pick]
  first
    | exact wpAny_bind (m := Builtin.Tuple.tupleExact _) (wpAny_newObj_type (wpAny_pure ⟨_, rfl, wpAny_pure h⟩) fits)
    | exact wpAny_bind (m := Builtin.Tuple.tupleExact _) (wpAny_newObj_type (wpAny_bind (wpAny_pure (wpAny_pure ⟨_, rfl, wpAny_pure h⟩))) fits)
    | exact wpAny_bind (wpAny_bind (m := Builtin.Tuple.tupleExact _) (wpAny_newObj_type (wpAny_pure (wpAny_pure ⟨_, rfl, wpAny_pure h⟩)) fits))
    | exact wpAny_bind (wpAny_bind (m := Builtin.Tuple.tupleExact _) (wpAny_newObj_type (wpAny_pure ⟨_, rfl, wpAny_pure h⟩) fits))
end
section
variable {X : Cx} {own : Nat → Bool}
def tBackT (K : PySem.W.Frag) (te : TE) : TE := fun σ H Q => te σ H fun x H1 => ∃ a xs, x = .ref a ∧ SqT K H1 a xs ∧ ∀ p, H1 p = none → Q (.ref p) (upd H1 p (.tup xs.reverse))
theorem pe_backT {e : Expr} {te : TE} {k : Nat} {p1 p2 p3 pos : Pos} (he : PE X e te) : PE X (.Subscript e (.Slice none none (some (.UnaryOp .USub (.Constant (.int 1) k p1) p2)) p3) pos) (tBackT X.K te) := by
  refine ⟨fun pins s σ H Q I h => Subscript_ (thn (he.run pins s σ H _ I h) ?_)⟩
  rintro v s1 ⟨x, H1, I1, r1, a, xs, rfl, hx, q⟩
  cases r1
  have part : PO X (some (.UnaryOp .USub (.Constant (.int 1) k p1) p2)) (tPart (tUn (rU fun i => .int (-i)) (tC (.int 1)))) := po_some (pe_un un_neg pe_int)
  refine wpAny_Slice (thn (po_none.run pins s1 σ H1 (fun o Hx => o = none ∧ Hx = H1) I1 ⟨rfl, rfl⟩) ?_)
  rintro vl s2 ⟨l, H2, I2, pl, rfl, rfl⟩
  refine thn (po_none.run pins s2 σ H2 (fun o Hx => o = none ∧ Hx = H2) I2 ⟨rfl, rfl⟩) ?_
  rintro vu s3 ⟨u, H3, I3, pu, rfl, rfl⟩
  refine thn (part.run pins s3 σ H3 (fun o Hx => o = some (-1) ∧ Hx = H3) I3 ⟨1, rfl, -1, rfl, rfl, rfl⟩) ?_
  rintro vs s4 ⟨o, H4, I4, ps, rfl, rfl⟩
  cases pl
  cases pu
  cases ps with
  | int i tk =>
    have I5 : Inv X pins σ H4 { s4 with heap := s4.heap.push { cls := .type "slice", data := .fields #[.none, .none, .int (-1) tk] } } := I4.kept (t' := s4.toks) fun b ob q => Heap.get?_push_of_some _ q
    obtain ⟨its, r, ht, hz⟩ := I5.tuple hx
    have hlen := r.length
    refine tail_any (ops := [.ref a, .ref s4.heap.objs.size]) ht.typeIs (PyProof.Rows.slot_tuple_getitem.lookup) ?_ (by with_unfolding_all rfl)
    refine getItem_back ht (Heap.IsSliceOf.new _ .none .none (.int (-1) tk)) ?_ (by rw [List.size_toArray]; omega)
    refine ⟨.ref _, _, I5.laid (t' := s4.toks) (o := .tup xs.reverse) (fun b ob q => Heap.get?_push_of_some _ q) (Nat.le_refl _) ?_, rfl, q _ (I5.hok.fresh (Nat.le_refl _))⟩
    exact ⟨by rw [List.length_reverse]; exact hz, _, r.reverse, IsTup.new _ _⟩
/-- t[::-1], t a tuple -/
theorem e_backT {e : Expr} {f : Ex} {k : Nat} {p1 p2 p3 pos : Pos} (he : PE X e (tB X.K own f)) : PE X (.Subscript e (.Slice none none (some (.UnaryOp .USub (.Constant (.int 1) k p1) p2)) p3) pos) (tF X.K own (x1 dBackT f)) := by
  refine pe_weak (pe_backT he) ?_
  rintro σ H Q ⟨B, F0, ρ, F, re, d, e, q⟩
  obtain ⟨x, e1, e2⟩ := x1_some e
  cases x <;> simp only [dBackT] at e2 <;> cases e2
  next ds =>
  refine ⟨B, F0, ρ, F, re, _, e1, fun v F1 H1 g1 b1 => ?_⟩
  obtain ⟨a, vs, rfl, k0, k1, k2, k3⟩ := Br.tup g1.fh b1
  refine ⟨a, vs, rfl, .of k1, fun p hp => ?_⟩
  have g2 : Grow F1 H1 (upd F1 p (.tup vs.reverse)) (upd H1 p (.tup vs.reverse)) := .new g1.fh hp
  exact q _ _ _ (g1.trans g2) (.tup upd_same (by rw [List.length_reverse]; exact k2) (k3.reverse.mono g2.ff))
end
end Tw

set_option Elab.async false
set_option linter.all false
set_option maxRecDepth 100000
set_option maxHeartbeats 4000000
namespace Tw
open PySem PySem.Spec PyProof.Rows L2
section
variable {X : Cx} {own : Nat → Bool}
/-! ### sorted(set(xs)) -/
def rSetI (K : PySem.W.Frag) (w : World) : List V → Hp → VK → Prop := fun xs H Q => ∃ (p : Addr) (ns : List Int), xs = [V.ref p] ∧ SqL K H p (ns.map V.int) ∧ ns.length < 64 ∧ ∀ (q : Addr) (c : Nat), H q = none → c ≤ ns.length → Q (.ref q) (upd H q (SetO w q (fun j => decide (j ∈ ns)) c))
theorem cr_setI (hc : X.calm = true) : CallR X (.type "set") (rSetI X.K X.w) := by
  intro pins s σ H vs us Q I r h
  obtain ⟨p, ns, rfl, hs, h64, q⟩ := h
  obtain ⟨its, rv, hl, hz⟩ := I.list hs
  rw [Vals.ref1 r]
  refine set_of_list ns (I.ok.hd hc) hl.isList rv.ints (by unfold scanBound; omega) fun h' tk c R hc hk => ?_
  exact ⟨.ref _, upd H s.heap.objs.size (SetO X.w s.heap.objs.size (fun j => decide (j ∈ ns)) c), I.laid hk (Nat.le_refl _) (setO_new R), rfl, q _ c (I.hok.fresh (Nat.le_refl _)) hc⟩
theorem n_sortSet {a : Expr} {fa : Ex} {p p2 pos q : Pos} (hc : X.calm = true) (ha : PE X a (tB X.K own fa)) (hm1 : X.mg "sorted" = none) (hm2 : X.mg "set" = none) (hg1 : Gl X "sorted" := by rfl) (hg2 : Gl X "set" := by rfl)
    (na : starEach [a] X.env = (false, eval a X.env) :: starEach [] X.env := by rfl) (nb : starEach [.Call (.Name "set" p2) [a] [] q] X.env = (false, eval (.Call (.Name "set" p2) [a] [] q) X.env) :: starEach [] X.env := by rfl)
    (q1 : ((backTo q (starEach [] X.env)).any fun x => x.fst) = false := by rfl) (q2 : ((backTo pos (starEach [] X.env)).any fun x => x.fst) = false := by rfl) :
    PE X (.Call (.Name "sorted" p) [.Call (.Name "set" p2) [a] [] q] [] pos) (tN X.K own (x1 dSortSet fa)) := by
  refine pe_weak (pe_callB (cr_sortedSet hc) hg1 hm1 (by decide +kernel) (pa_cons (pe_callTy (cr_setI hc) hg2 hm2 (by decide +kernel) (pa_cons ha pa_nil na) (by decide) (by decide) na q1) pa_nil nb) (by decide) (by decide) nb q2) ?_
  rintro σ H Q ⟨B, F0, ρ, F, re, d, e, q⟩
  obtain ⟨x, e1, e2⟩ := x1_some e
  cases x <;> simp only [dSortSet] at e2 <;> try cases e2
  next ds =>
  cases e3 : intsOf ds with
  | none => rw [e3] at e2; cases e2
  | some ns =>
    rw [e3] at e2
    dsimp only [Option.bind_some] at e2
    split at e2 <;> cases e2
    rename_i h64
    refine ⟨B, F0, ρ, F, re, _, e1, fun v F1 H1 g1 b1 => ?_⟩
    obtain ⟨a, vs, rfl, k1, k2, k3⟩ := Br.lst g1.fh b1
    rw [intsOf_some e3] at k3
    rw [k3.ints] at k1
    refine ⟨a, ns, rfl, .of k1, h64, fun q' c hq hcn => ?_⟩
    refine ⟨q', _, c, rfl, upd_same, by omega, fun ns' p' hp hmem hlen hnew => ?_⟩
    have en : ns' = sortU ns := rising_eq hp (sortU_sorted ns) fun k => by rw [hmem, sortU_mem, decide_eq_true_iff]
    have g2 : Grow F1 H1 F1 (upd H1 q' (SetO X.w q' (fun j => decide (j ∈ ns)) c)) := .own g1.fh hq
    have g3 := Grow.own (o := .lst (ns'.map V.int)) g2.fh hnew
    refine q _ F1 _ ((g1.trans g2).trans g3) ⟨p', _, _, rfl, rfl, (g1.trans g2).hh.free hnew, g2.fh.free hnew, upd_same, ?_, ?_⟩
    · rw [List.length_map, hlen]
      exact Nat.le_trans hcn (Nat.le_trans (Nat.le_of_lt h64) (by decide))
    · rw [en]
      exact .ofInts _
/-! ### sorted(xs) -/
def kOf (H : Hp) : V → Int × Int
  | .ref a => match H a with
    | some (.tup [.int i, .int j]) => (i, j)
    | _ => (0, 0)
  | _ => (0, 0)
theorem pairs_at {K : PySem.W.Frag} {F H : Hp} (fh : Same F H) : ∀ {vs : List V} {ps : List (Int × Int)}, RpAll K F vs (ps.map dPr) → vs.map (kOf H) = ps ∧ ∀ v ∈ vs, ∃ t, v = V.ref t ∧ F t = some (.tup [.int (kOf H v).1, .int (kOf H v).2])
  | _, [], .nil => ⟨rfl, fun _ h => by cases h⟩
  | _, p :: ps, .cons (v := v) r t => by
    obtain ⟨h1, h2⟩ := pairs_at fh t
    cases r with
    | @tup a vs ds k1 k2 k3 =>
      cases k3 with
      | cons r1 t1 =>
        cases t1 with
        | cons r2 t2 =>
          cases r1
          cases r2
          cases t2
          have e : kOf H (.ref a) = p := by
            show (match H a with
              | some (HO.tup [V.int i, V.int j]) => (i, j)
              | _ => (0, 0)) = p
            rw [fh _ _ k1]
          refine ⟨by rw [List.map_cons, e, h1], fun w hw => ?_⟩
          rcases List.mem_cons.mp hw with rfl | hw
          · exact ⟨a, rfl, by rw [e]; exact k1⟩
          · exact h2 w hw
theorem lexB_le {a b : Int × Int} (h : SrtO.lexB b a = false) : leP a b = true := by
  rw [leP_iff]
  have h' : ¬ (b.1 < a.1 ∨ (b.1 = a.1 ∧ b.2 < a.2)) := by
    intro z
    have : SrtO.lexB b a = true := by
      unfold SrtO.lexB
      simp
      split <;> omega
    rw [h] at this
    cases this
  omega
theorem ok_sorted : CallOk .nw X.K (fun xs H Q => rSortedI X.K xs H Q ∨ rSortedPO X.K xs H Q) (on1 dSorted) := by
  intro F H vs ds d Q fh b e q
  obtain ⟨x, ex, e'⟩ := on1_some e
  clear e
  subst ex
  obtain ⟨v, ev, b'⟩ := br1 b
  clear b
  subst ev
  cases x <;> simp only [dSorted] at e' <;> try cases e'
  next ds =>
  obtain ⟨a, vs, rfl, k1, k2, k3⟩ := b'.lst fh
  split at e'
  · next ns e3 =>
    cases e'
    rw [intsOf_some e3] at k3
    have ev := k3.ints
    subst ev
    refine .inl ⟨a, ns, rfl, .of k1, fun ns' p hp hs hn => ?_⟩
    have en := sortI_eq hp hs
    subst en
    refine q _ F _ (.own fh hn) ⟨p, _, _, rfl, rfl, hn, fh.free hn, upd_same, ?_, .ofInts _⟩
    rw [List.length_map, (sortI_perm ns).length_eq]
    rw [List.length_map] at k2
    exact k2
  · next e3 =>
    cases e4 : pairsOf ds with
    | none => rw [e4] at e'; cases e'
    | some ps =>
      rw [e4] at e'
      cases e'
      rw [pairsOf_some e4] at k3
      obtain ⟨m1, m2⟩ := pairs_at fh k3
      refine .inr ⟨a, vs, kOf H, rfl, .of k1, fun x hx => ?_, fun ys p hs hst hn => ?_⟩
      · obtain ⟨t, e1, e2⟩ := m2 x hx
        exact ⟨t, e1, fh _ _ e2⟩
      · have pm := hst.perm
        have en : ys.map (kOf H) = sortP ps := by
          refine sortP_eq ?_ ?_
          · rw [← m1]
            exact pm.map _
          · rw [List.pairwise_map]
            exact hs.imp fun h => lexB_le h
        refine q _ F _ (.own fh hn) ⟨p, ys, _, rfl, rfl, hn, fh.free hn, upd_same, ?_, ?_⟩
        · rw [pm.length_eq]
          exact k2
        · rw [← en]
          have all : ∀ v ∈ ys, Rp X.K F v (dPr (kOf H v)) := fun v hv => by
            obtain ⟨t, e1, e2⟩ := m2 v (pm.mem_iff.mp hv)
            rw [e1] at e2 ⊢
            exact .tup e2 (show 2 ≤ LIM by decide) (.cons (.int _) (.cons (.int _) .nil))
          clear en hs hst pm
          induction ys with
          | nil => exact .nil
          | cons y ys ih => exact .cons (all y List.mem_cons_self) (ih fun v hv => all v (List.mem_cons_of_mem _ hv))
theorem CallR.or {f : Value} {r r' : List V → Hp → VK → Prop} (h : CallR X f r) (h' : CallR X f r') : CallR X f (fun xs H Q => r xs H Q ∨ r' xs H Q) := by
  intro pins s σ H vs us Q I rv q
  rcases q with q | q
  · exact h pins s σ H vs us Q I rv q
  · exact h' pins s σ H vs us Q I rv q
theorem cr_srt : CallR X (.builtin "sorted") (fun xs H Q => rSortedI X.K xs H Q ∨ rSortedPO X.K xs H Q) := CallR.or cr_sortedI cr_sortedPO
end
end Tw

set_option Elab.async false
set_option linter.all false
set_option maxRecDepth 100000
set_option maxHeartbeats 4000000
namespace Tw
open PySem PySem.Spec PyProof.Rows L2
section
variable {X : Cx} {own : Nat → Bool}
theorem rng_V {K : PySem.W.Frag} {F : Hp} (n : Nat) (lo : Int) : RpAll K F ((List.range n).map fun i => V.int (lo + (i : Nat))) (rng lo n) := by
  unfold rng
  generalize List.range n = l
  induction l with
  | nil => exact .nil
  | cons i l ih => exact .cons (.int _) ih
/-- list(range(n)) -/
theorem n_listR {a : Expr} {fa : Ex} {p p2 q pos : Pos} (hc : X.calm = true) (ha : PE X a (tF X.K own fa)) (hm1 : X.mg "list" = none) (hm2 : X.mg "range" = none) (hg1 : Gl X "list" := by rfl) (hg2 : Gl X "range" := by rfl)
    (na : starEach [a] X.env = (false, eval a X.env) :: starEach [] X.env := by rfl) (nb : starEach [.Call (.Name "range" p2) [a] [] q] X.env = (false, eval (.Call (.Name "range" p2) [a] [] q) X.env) :: starEach [] X.env := by rfl) :
    PE X (.Call (.Name "list" p) [.Call (.Name "range" p2) [a] [] q] [] pos) (tN X.K own (xLR fa)) := by
  refine pe_weak (pe_listRg hc hg1 hm1 (prg_1 hg2 hm2 ha na) nb) ?_
  rintro σ H Q ⟨B, F0, ρ, F, re, d, e, q⟩
  unfold xLR at e
  cases e1 : iR1 fa ρ with
  | none => rw [e1] at e; cases e
  | some ds =>
    rw [e1] at e
    dsimp only [Option.bind_some] at e
    split at e <;> cases e
    rename_i hl
    unfold iR1 at e1
    split at e1
    · next j e2 =>
      split at e1 <;> cases e1
      rename_i hj
      rw [rng_len] at hl
      refine ⟨B, F0, ρ, F, re, _, e2, fun v F1 H1 g1 r1 => ?_⟩
      have r1 : Rp X.K F1 v (.int j) := r1
      cases r1
      refine ⟨j, rfl, ⟨by omega, by omega, by omega, by omega, by omega⟩, fun p hp => ?_⟩
      refine q _ F1 _ (g1.trans (.own g1.fh hp)) ⟨p, _, _, rfl, rfl, g1.hh.free hp, g1.fh.free hp, upd_same, ?_, ?_⟩
      · rw [rgV_length, Int.sub_zero]
        exact hl
      · unfold rgV
        rw [Int.sub_zero]
        exact rng_V j.toNat 0
    · cases e1
end
/-- a def as its callers see it -/
structure Cal (P : Program) (w : World) (K : PySem.W.Frag) (mg : Str → Option Value) (base : Heap) (k : Nat) (x : Str) (ps : List Str) (G : List D → Option D) : Prop where
  ex : ∃ (f : Addr) (fd : FuncData), FnOk P w K mg base CX0 k f fd ps (spG K G) ∧ mg x = some (.ref f) ∧ PySem.W.keepIn K (.ref f) = true ∧ Binds K fd ps []
theorem Cal.mono {P : Program} {w : World} {K : PySem.W.Frag} {mg : Str → Option Value} {base : Heap} {j k : Nat} {x : Str} {ps : List Str} {G : List D → Option D} (C : Cal P w K mg base j x ps G) (h : j ≤ k) : Cal P w K mg base k x ps G := by
  obtain ⟨f, fd, F, m, kp, b⟩ := C.ex
  exact ⟨f, fd, F.mono h, m, kp, b⟩
theorem e_cal {X : Cx} {own : Nat → Bool} {j k : Nat} {ps : List Str} {G : List D → Option D} {x : Str} {p pos : Pos} {e : Expr} {es : List Expr} {g : Rho → Option (List D)} (C : Cal X.prog X.w X.K X.mg X.base j x ps G) (hr : Room k X.A) (ha : PA X (e :: es) (tA X.K own g)) (hjk : j ≤ k := by omega)
    (hg : Gl X x := by rfl) (hdb : (x == ("__debug__" : Str)) = false := by decide) (he : starEach (e :: es) X.env = (false, eval e X.env) :: starEach es X.env := by rfl) (hpl : (backTo pos (starEach es X.env)).any (·.1) = false := by rfl) :
    PE X (.Call (.Name x p) (e :: es) [] pos) (tF X.K own (xCall G g)) := by
  obtain ⟨f, fd, F, m, kp, b⟩ := C.ex
  exact e_call F (hr.mono hjk) m kp b ha hg hdb he hpl
/-- the built-in names are what they were -/
structure Bt (mg : Str → Option Value) : Prop where
  len : mg "len" = none
  isinstance : mg "isinstance" = none
  int : mg "int" = none
  bool : mg "bool" = none
  str : mg "str" = none
  tuple : mg "tuple" = none
  list : mg "list" = none
  set : mg "set" = none
  range : mg "range" = none
  zip : mg "zip" = none
  enumerate : mg "enumerate" = none
  sorted : mg "sorted" = none
  all : mg "all" = none
  any : mg "any" = none
  sum : mg "sum" = none
  min : mg "min" = none
  max : mg "max" = none
  ValueError : mg "ValueError" = none
theorem bt_of {K : PySem.W.Frag} {h : Heap} {mg : Str → Option Value} (X : K.In h) (G : h.Ns mainGlobals mg) (k1 : PySem.W.nsIn K mainGlobals "len" = some none) (k2 : PySem.W.nsIn K mainGlobals "isinstance" = some none) (k3 : PySem.W.nsIn K mainGlobals "int" = some none)
    (k4 : PySem.W.nsIn K mainGlobals "bool" = some none) (k5 : PySem.W.nsIn K mainGlobals "str" = some none) (k6 : PySem.W.nsIn K mainGlobals "tuple" = some none) (k7 : PySem.W.nsIn K mainGlobals "list" = some none) (k8 : PySem.W.nsIn K mainGlobals "set" = some none)
    (k9 : PySem.W.nsIn K mainGlobals "range" = some none) (k10 : PySem.W.nsIn K mainGlobals "zip" = some none) (k11 : PySem.W.nsIn K mainGlobals "enumerate" = some none) (k12 : PySem.W.nsIn K mainGlobals "sorted" = some none) (k13 : PySem.W.nsIn K mainGlobals "all" = some none)
    (k14 : PySem.W.nsIn K mainGlobals "any" = some none) (k15 : PySem.W.nsIn K mainGlobals "sum" = some none) (k16 : PySem.W.nsIn K mainGlobals "min" = some none) (k17 : PySem.W.nsIn K mainGlobals "max" = some none) (k18 : PySem.W.nsIn K mainGlobals "ValueError" = some none) : Bt mg :=
  ⟨PySem.W.mg_none_of X G k1, PySem.W.mg_none_of X G k2, PySem.W.mg_none_of X G k3, PySem.W.mg_none_of X G k4, PySem.W.mg_none_of X G k5, PySem.W.mg_none_of X G k6, PySem.W.mg_none_of X G k7, PySem.W.mg_none_of X G k8, PySem.W.mg_none_of X G k9,
    PySem.W.mg_none_of X G k10, PySem.W.mg_none_of X G k11, PySem.W.mg_none_of X G k12, PySem.W.mg_none_of X G k13, PySem.W.mg_none_of X G k14, PySem.W.mg_none_of X G k15, PySem.W.mg_none_of X G k16, PySem.W.mg_none_of X G k17, PySem.W.mg_none_of X G k18⟩
end Tw
namespace Tw
open PySem PySem.Spec PyProof.Rows L2
/-- the script, as the laws' functions take it -/
abbrev scrD (ns : List Int) : D := .dict [(.none, .list (ns.map .int))]
theorem law_end {K : PySem.W.Frag} {H : Hp} {a : Addr} {ns : List Int} {G : List D → Option D} {E : XK} (h : G [scrD ns] = some (.bool true)) (hS : SqL K H a (ns.map V.int)) : spG K G [V.ref a] H (fun v _ => v = V.bl true) E :=
  ⟨H, [scrD ns], .bool true, .refl _, .cons (.scr hS) .nil, h, fun v F' H' g r => by cases r; rfl⟩
end Tw

set_option Elab.async false
set_option linter.all false
set_option maxRecDepth 100000
set_option maxHeartbeats 4000000
namespace Tw
open PySem PySem.Spec PyProof.Rows L2
/-! ### t >= u of tuples of ints -/
theorem lexGe (ns ms : List Int) : ∀ (k i : Nat), i + k = min ns.length ms.length →
    Ob.lexAt (fun j => decide (ns.getD j 0 = ms.getD j 0)) (fun j => decide (ms.getD j 0 ≤ ns.getD j 0)) (decide (ns.length ≥ ms.length)) i k = !HT.lexLt (ns.drop i) (ms.drop i)
  | 0, i, h => by
    rw [Ob.lexAt_zero]
    by_cases hl : ns.length ≥ ms.length
    · have e : ms.drop i = [] := List.drop_eq_nil_of_le (by omega)
      rw [e, decide_eq_true hl]
      cases ns.drop i <;> rfl
    · have e : ns.drop i = [] := List.drop_eq_nil_of_le (by omega)
      have hm : i < ms.length := by omega
      rw [e, decide_eq_false hl, List.drop_eq_getElem_cons hm]
      rfl
  | k + 1, i, h => by
    have hn : i < ns.length := by omega
    have hm : i < ms.length := by omega
    have g1 : ns.getD i 0 = ns[i] := by rw [List.getD_eq_getElem?_getD, List.getElem?_eq_getElem hn]; rfl
    have g2 : ms.getD i 0 = ms[i] := by rw [List.getD_eq_getElem?_getD, List.getElem?_eq_getElem hm]; rfl
    rw [Ob.lexAt_succ, lexGe ns ms k (i + 1) (by omega), List.drop_eq_getElem_cons hn, List.drop_eq_getElem_cons hm, HT.lexLt, g1, g2]
    by_cases q : ns[i] = ms[i]
    · rw [decide_eq_true q, if_pos rfl, if_pos q]
    · rw [decide_eq_false q, if_neg Bool.false_ne_true, if_neg q]
      by_cases l : ns[i] < ms[i]
      · rw [decide_eq_true l, decide_eq_false (by omega)]
        rfl
      · rw [decide_eq_false l, decide_eq_true (by omega)]
        rfl
section
variable {X : Cx} {own : Nat → Bool}
def rGeT (K : PySem.W.Frag) : R2 := fun x y H Q => ∃ (a b : Addr) (ns ms : List Int), x = .ref a ∧ y = .ref b ∧ SqT K H a (ns.map V.int) ∧ SqT K H b (ms.map V.int) ∧ Q (.bl (!HT.lexLt ns ms)) H
theorem op_geT (hu : X.A.units < cLine) : OpR X (compareOp .GtE) (rGeT X.K) := by
  intro pins s σ H x y v u Q I rx ry h
  obtain ⟨a, b, ns, ms, rfl, rfl, ha, hb, q⟩ := h
  cases rx
  cases ry
  obtain ⟨its, r1, p1, _⟩ := I.tuple ha
  obtain ⟨its2, r2, p2, _⟩ := I.tuple hb
  have i1 := Vals.ints r1
  have i2 := Vals.ints r2
  have z1 : its.toArray.size = ns.length := i1.length
  have z2 : its2.toArray.size = ms.length := i2.length
  have q1 : ∀ j (hj : j < its.toArray.size), ∃ t, its.toArray[j] = .int (ns.getD j 0) t := fun j hj => IntsAre.int_at i1 _ _ (by simp at hj; simp [hj])
  have q2 : ∀ j (hj : j < its2.toArray.size), ∃ t, its2.toArray[j] = .int (ms.getD j 0) t := fun j hj => IntsAre.int_at i2 _ _ (by simp at hj; simp [hj])
  have R := Ob.RcOp.tuples_ge (A := X.A) (s := s) (e := fun j => decide (ns.getD j 0 = ms.getD j 0)) (r := fun j => decide (ms.getD j 0 ≤ ns.getD j 0)) p1 p2 hu
    (fun j j1 j2 => by
      obtain ⟨t, e1⟩ := q1 j j1
      obtain ⟨t', e2⟩ := q2 j j2
      rw [e1, e2, ← Bool.beq_eq_decide_eq]
      exact SeqAt.EqAt.int_int _ _ _ _)
    (fun j j1 j2 _ => by
      obtain ⟨t, e1⟩ := q1 j j1
      obtain ⟨t', e2⟩ := q2 j j2
      rw [e1, e2]
      exact Ob.RcOp.ge_int _ _ _ _)
  rw [z1, z2, lexGe ns ms _ 0 (by omega), List.drop_zero, List.drop_zero] at R
  have w := R X.prog X.w X.xe (EP X pins σ Q) ⟨.bl _, H, I, rfl, q⟩
  exact w
theorem ok_geA : OpOk .fz X.K (fun x y H Q => rI0 (fun i j => .bl (decide (j ≤ i))) x y H Q ∨ rGeT X.K x y H Q) dGeA := by
  intro F H x y dx dy d Q fh bx byy e q
  cases dx <;> cases dy <;> simp only [dGeA] at e <;> try cases e
  · rw [Br.int bx, Br.int byy]
    exact .inl ⟨_, _, rfl, rfl, q _ F H (.refl fh) (.bl _)⟩
  · next a b =>
    cases ea : intsOf a with
    | none => rw [ea] at e; cases e
    | some ns =>
      cases eb : intsOf b with
      | none => rw [ea, eb] at e; cases e
      | some ms =>
        rw [ea, eb] at e
        cases e
        obtain ⟨p, vs, rfl, h0, h1, h2, h3⟩ := bx.tup fh
        obtain ⟨p', vs', rfl, h0', h1', h2', h3'⟩ := byy.tup fh
        rw [intsOf_some ea] at h3
        rw [intsOf_some eb] at h3'
        rw [h3.ints] at h1
        rw [h3'.ints] at h1'
        exact .inr ⟨p, p', ns, ms, rfl, rfl, .of h1, .of h1', q _ F H (.refl fh) (.bl _)⟩
variable {a b : Expr} {fa fb : Ex} {pos : Pos} {n : Nat}
theorem e_geA (hr : Room n X.A) (ha : PE X a (tB X.K own fa)) (hb : PE X b (tB X.K own fb)) : PE X (.Compare a [.GtE] [b] pos) (tF X.K own (x2 dGeA fa fb)) := e_cmp (OpR.or op_ge (op_geT hr.units0)) ok_geA ha hb (nomark _)
theorem c_geA (hr : Room n X.A) (ha : PE X a (tB X.K own fa)) (hb : PE X b (tB X.K own fb)) : PT X (.Compare a [.GtE] [b] pos) (tT X.K own (x2 dGeA fa fb)) := c_cmp (OpR.or op_ge (op_geT hr.units0)) ok_geA ha hb (nomark _)
end
end Tw

set_option Elab.async false
set_option linter.all false
set_option maxRecDepth 100000
set_option maxHeartbeats 4000000
namespace Tw
open PySem PySem.Spec PyProof.Rows L2
section
variable {X : Cx} {own : Nat → Bool}
/-! ### sorted of a tuple of ints -/
def rSortedT (K : PySem.W.Frag) : List V → Hp → VK → Prop := fun vs H Q => ∃ (a : Addr) (ns : List Int), vs = [V.ref a] ∧ SqT K H a (ns.map V.int) ∧
  ∀ (ns' : List Int) (p : Addr), ns'.Perm ns → ns'.Pairwise (· ≤ ·) → H p = none → Q (.ref p) (upd H p (.lst (ns'.map V.int)))
theorem cr_sortedT : CallR X (.builtin "sorted") (rSortedT X.K) := by
  intro pins s σ H vs us Q I r h
  obtain ⟨a, ns, rfl, hs, q⟩ := h
  obtain ⟨its, rv, ht, hz⟩ := I.tuple hs
  obtain ⟨o, hob, hoc, n0, hod⟩ := ht
  rw [Vals.ref1 r]
  have hi := rv.ints
  have hz' : its.length ≤ sizeLine := by rw [← rv.length]; exact hz
  refine Calls.call_function_entry PyProof.Rows.kind_sorted PyProof.Rows.plain_sorted PyProof.Rows.entry_sorted (PyProof.Rows.args_sorted1 _) ?_
  unfold Builtin.«sorted»
  refine wpAny_bind (m := checkCount "sorted" 1 1 _) (wpAny_pure ?_)
  refine wpAny_bind (wpAny_collect_seq a (.inr rfl) hob hoc hod (fun h' hk => ?_) (by rw [List.size_toArray]; exact hz'))
  have I1 : Inv X pins σ H { s with heap := h' } := I.kept (t' := s.toks) hk
  refine wpAny_bind (wpAny_newList ?_ hz')
  have hoL : (h'.push (seqObj "list" its.toArray 0)).get? h'.objs.size = some (seqObj "list" its.toArray 0) := Heap.get?_push_size _ rfl
  show wpAny _ _ _ _ _ { s with heap := h'.push (seqObj "list" its.toArray 0) }
  refine wpAny_bind (wpAny_holding (wpAny_call_entry PyProof.Rows.slot_list_sort ⟨_, hoL, rfl⟩ PyProof.Rows.entry_list_sort
    (SrtO.list_sort_ord (s := { s with heap := h'.push (seqObj "list" its.toArray 0) }) SrtO.swo_int hoL hz' (fun h2 => SrtO.ints_sortable hi h2) fun out h1 h2 => ⟨_, rfl, ?_⟩) (PyProof.Rows.args_list_sort _)))
  obtain ⟨k1, k2, k3⟩ := SrtO.ints_out hi h1 h2
  obtain ⟨e', he'⟩ := PyProof.Rows.sortedHeap_at (vs := its) (out := out.toArray) hoL
  have hlen : ((out.map SrtO.iv).map V.int).length ≤ sizeLine := by
    rw [List.length_map, k2.length_eq]
    rw [List.length_map] at hz
    exact hz
  refine wpAny_pure ⟨_, rfl, .ref h'.objs.size, upd H h'.objs.size (.lst ((out.map SrtO.iv).map V.int)), I1.laid (t' := s.toks) (fun b u e => ?_) (Nat.le_refl _)
    (show ObjOk X.prog X.w _ _ _ (.lst ((out.map SrtO.iv).map V.int)) from ⟨hlen, out, e', vals_of_ints k1, he'⟩), rfl, q _ _ k2 k3 (I1.hok.fresh (Nat.le_refl _))⟩
  have hb : b < h'.objs.size := Heap.lt_size e
  rw [PyProof.Rows.sortedHeap_old (Nat.ne_of_lt hb) (by rw [size_push']; exact Nat.lt_succ_of_lt hb)]
  exact Heap.get?_push_of_some _ e
theorem ok_sortedT : CallOk .nw X.K (fun xs H Q => rSortedT X.K xs H Q) (on1 dSortedT) := by
  intro F H vs ds d Q fh b e q
  obtain ⟨x, ex, e'⟩ := on1_some e
  clear e
  subst ex
  obtain ⟨v, ev, b'⟩ := br1 b
  clear b
  subst ev
  cases x <;> simp only [dSortedT] at e' <;> try cases e'
  next ds =>
  obtain ⟨a, vs, rfl, k0, k1, k2, k3⟩ := b'.tup fh
  cases e3 : intsOf ds with
  | none => rw [e3] at e'; cases e'
  | some ns =>
    rw [e3] at e'
    cases e'
    rw [intsOf_some e3] at k3
    have ev := k3.ints
    subst ev
    refine ⟨a, ns, rfl, .of k1, fun ns' p hp hs hn => ?_⟩
    have en := sortI_eq hp hs
    subst en
    refine q _ F _ (.own fh hn) ⟨p, _, _, rfl, rfl, hn, fh.free hn, upd_same, ?_, .ofInts _⟩
    rw [List.length_map, (sortI_perm ns).length_eq]
    rw [List.length_map] at k2
    exact k2
theorem cr_srtA : CallR X (.builtin "sorted") (fun xs H Q => (rSortedI X.K xs H Q ∨ rSortedPO X.K xs H Q) ∨ rSortedT X.K xs H Q) := CallR.or cr_srt cr_sortedT
theorem ok_sortedA : CallOk .nw X.K (fun xs H Q => (rSortedI X.K xs H Q ∨ rSortedPO X.K xs H Q) ∨ rSortedT X.K xs H Q) (on1 dSortedA) := by
  intro F H vs ds d Q fh b e q
  obtain ⟨x, ex, e'⟩ := on1_some e
  subst ex
  cases x <;> simp only [dSortedA] at e' <;> try cases e'
  · exact .inl (ok_sorted F H vs _ d Q fh b e' q)
  · exact .inr (ok_sortedT F H vs _ d Q fh b e' q)
/-! ### len(set(t)) of a tuple of ints -/
def rSetT (K : PySem.W.Frag) (w : World) : List V → Hp → VK → Prop := fun xs H Q => ∃ (p : Addr) (ns : List Int), xs = [V.ref p] ∧ SqT K H p (ns.map V.int) ∧ ns.length ≤ 1000 ∧ ∀ (q : Addr) (c : Nat), H q = none → c ≤ ns.length → Q (.ref q) (upd H q (SetO w q (fun j => decide (j ∈ ns)) c))
theorem cr_setT (hc : X.calm = true) : CallR X (.type "set") (rSetT X.K X.w) := by
  intro pins s σ H vs us Q I r h
  obtain ⟨p, ns, rfl, hs, h64, q⟩ := h
  obtain ⟨its, rv, ht, hz⟩ := I.tuple hs
  rw [Vals.ref1 r]
  have hi : IntsAre its.toArray.toList ns := ints_of_vals rv
  refine call_set_tupI ns (I.ok.hd hc) (show s.heap.IsTuple p its.toArray from ht) hi (by unfold scanBound; omega) fun h' tk c R hcn hk => ?_
  exact ⟨.ref _, upd H s.heap.objs.size (SetO X.w s.heap.objs.size (fun j => decide (j ∈ ns)) c), I.laid hk (Nat.le_refl _) (setO_new R), rfl, q _ c (I.hok.fresh (Nat.le_refl _)) hcn⟩
def rLenS (w : World) : List V → Hp → VK → Prop := fun xs H Q => ∃ (a : Addr) (ns : List Int) (c : Nat), xs = [V.ref a] ∧ H a = some (SetO w a (fun j => decide (j ∈ ns)) c) ∧ Q (.int (sortU ns).length) H
theorem nodup_len {l m : List Int} (hl : l.Nodup) (hm : m.Nodup) (h : ∀ k, k ∈ l ↔ k ∈ m) : l.length = m.length := ((List.perm_ext_iff_of_nodup hl hm).mpr h).length_eq
theorem cr_lenS : CallR X (.builtin "len") (rLenS X.w) := by
  intro pins s σ H vs us Q I r h
  obtain ⟨a, ns, c, rfl, ha, q⟩ := h
  rw [Vals.ref1 r]
  obtain ⟨o, es, ep, t, ho, hex, hd, _, hnd, hm, hb, hf, hn, _⟩ := setO_get I ha
  refine call_len_set ho hex hd hf (by unfold scanBound at hb; omega) ⟨.int _, H, I.tok _, ⟨_, rfl⟩, ?_⟩
  have e : es.size = (sortU ns).length := by
    have h1 : (es.toList.map keyOf).length = (sortU ns).length := nodup_len hnd ((sortU_sorted ns).imp fun h => Int.ne_of_lt h) fun k => by
      rw [← hm k, decide_eq_true_iff, sortU_mem]
    rw [List.length_map, Array.length_toList] at h1
    exact h1
  rw [e]
  exact q
theorem e_lenSet {a : Expr} {fa : Ex} {p p2 pos q : Pos} (hc : X.calm = true) (ha : PE X a (tB X.K own fa)) (hm1 : X.mg "len" = none) (hm2 : X.mg "set" = none) (hg1 : Gl X "len" := by rfl) (hg2 : Gl X "set" := by rfl)
    (na : starEach [a] X.env = (false, eval a X.env) :: starEach [] X.env := by rfl) (nb : starEach [.Call (.Name "set" p2) [a] [] q] X.env = (false, eval (.Call (.Name "set" p2) [a] [] q) X.env) :: starEach [] X.env := by rfl)
    (q1 : ((backTo q (starEach [] X.env)).any fun x => x.fst) = false := by rfl) (q2 : ((backTo pos (starEach [] X.env)).any fun x => x.fst) = false := by rfl) :
    PE X (.Call (.Name "len" p) [.Call (.Name "set" p2) [a] [] q] [] pos) (tF X.K own (x1 dLenSet fa)) := by
  refine pe_weak (pe_callB cr_lenS hg1 hm1 (by decide +kernel) (pa_cons (pe_callTy (cr_setT hc) hg2 hm2 (by decide +kernel) (pa_cons ha pa_nil na) (by decide) (by decide) na q1) pa_nil nb) (by decide) (by decide) nb q2) ?_
  rintro σ H Q ⟨B, F0, ρ, F, re, d, e, q⟩
  obtain ⟨x, e1, e2⟩ := x1_some e
  cases x <;> simp only [dLenSet] at e2 <;> try cases e2
  next ds =>
  cases e3 : intsOf ds with
  | none => rw [e3] at e2; cases e2
  | some ns =>
    rw [e3] at e2
    dsimp only [Option.bind_some] at e2
    split at e2 <;> cases e2
    rename_i h64
    refine ⟨B, F0, ρ, F, re, _, e1, fun v F1 H1 g1 b1 => ?_⟩
    obtain ⟨a, vs, rfl, k0, k1, k2, k3⟩ := Br.tup g1.fh b1
    rw [intsOf_some e3] at k3
    rw [k3.ints] at k1
    refine ⟨a, ns, rfl, .of k1, h64, fun q' c hq hcn => ?_⟩
    have g2 : Grow F1 H1 F1 (upd H1 q' (SetO X.w q' (fun j => decide (j ∈ ns)) c)) := .own g1.fh hq
    exact ⟨q', ns, c, rfl, upd_same, q _ F1 _ (g1.trans g2) (.int _)⟩
end
end Tw

set_option Elab.async false
set_option linter.all false
set_option maxRecDepth 100000
set_option maxHeartbeats 4000000
namespace Tw
open PySem PySem.Spec PyProof.Rows L2
/-! ### defs that raise: what is raised is told as the datum exD -/
theorem rp_exD {K : PySem.W.Frag} {F : Hp} {v : V} (h : Rp K F v exD) : False := by cases h
theorem RE.forget {K : PySem.W.Frag} {B F0 : Hp} {own : Nat → Bool} {ρ : Rho} {σ : L2.St} {F H : Hp} (r : RE K B F0 own ρ σ F H) : RE K B F0 own (ρ.map fun _ => none) σ F H := by
  have no : ∀ (i : Nat) (d : D), (ρ.map fun _ => (none : Option D))[i]? = some (some d) → False := fun i d h => by
    rw [List.getElem?_map] at h
    cases e : ρ[i]? with
    | none => rw [e] at h; cases h
    | some x => rw [e] at h; cases h
  exact ⟨r.fh, r.bh, r.ff, r.nf, by rw [List.length_map]; exact r.len, fun i d h => (no i d h).elim, fun i d h => (no i d h).elim, fun i j d e a h => (no i d h).elim⟩
/-- a statement that may raise; W: what is wished of that -/
def tX (K : PySem.W.Frag) (own : Nat → Bool) (W : L2.St → Hp → Prop) (g : Sx) : TS := fun Dn σ H => ∃ B F0 ρ F, RE K B F0 own ρ σ F H ∧ ∃ o, g ρ = some o ∧ (match o with
  | .nx ρ' => ∀ σ' F' H', Same F F' → RE K B F0 own ρ' σ' F' H' → Dn.nx σ' H'
  | .bk ρ' => ∀ σ' F' H', Same F F' → RE K B F0 own ρ' σ' F' H' → Dn.bk σ' H'
  | .ct ρ' => ∀ σ' F' H', Same F F' → RE K B F0 own ρ' σ' F' H' → Dn.ct σ' H'
  | .rt d => ∀ v F' H', Grow F0 B F' H' → Rp K F' v d → Dn.rt v H') ∧
  (o = .rt exD → ∀ n σ' F' H', RE K B F0 own (List.replicate n none) σ' F' H' → W σ' H')
/-- a value that a call may refuse -/
def tFX (K : PySem.W.Frag) (own : Nat → Bool) (W : L2.St → Hp → Prop) (f : Ex) : TE := fun σ H Q => ∃ B F0 ρ F, RE K B F0 own ρ σ F H ∧ ∃ d, f ρ = some d ∧ (∀ v F1 H1, Grow F H F1 H1 → Rp K F1 v d → Q v H1) ∧ (d = exD → ∀ F1 H1, Grow F H F1 H1 → W σ H1)
theorem isEx_of {d : D} (h : isEx d = true) : d = exD := by
  unfold isEx at h
  split at h
  · rfl
  · cases h
section
variable {X : Cx} {own : Nat → Bool} {W : L2.St → Hp → Prop} {st : Stmt} {rest : List Stmt} {g g' : Sx} {e : Expr} {f : Ex} {pos : Pos}
theorem ps_nox {t : TS} (h : PS X.nox st t) : PS X st t := ⟨fun pins s σ H D I hw => wpAny_mono (h.run pins s σ H D (I.wish _) hw) (fun _ _ q => q.unwish) fun _ _ z => False.elim z⟩
theorem sx_lift (h : PS X.nox st (tS X.K own g)) : PS X st (tX X.K own W g) := ps_weak (ps_nox h) fun Dn σ H ⟨B, F0, ρ, F, re, o, e, q, _⟩ => ⟨B, F0, ρ, F, re, o, e, q⟩
theorem ssx_lift {st : List Stmt} (h : PSs X st (tS X.K own g)) : PSs X st (tX X.K own W g) := pss_weak h fun Dn σ H ⟨B, F0, ρ, F, re, o, e, q, _⟩ => ⟨B, F0, ρ, F, re, o, e, q⟩
theorem ssx_cons (h1 : PS X st (tX X.K own W g)) (h2 : PSs X rest (tX X.K own W g')) : PSs X (st :: rest) (tX X.K own W (sSeq g g')) := by
  refine pss_weak (pss_cons h1 h2) ?_
  rintro Dn σ H ⟨B, F0, ρ, F, re, o, e, q, w⟩
  unfold sSeq at e
  split at e
  · next ρ1 e1 =>
    refine ⟨B, F0, ρ, F, re, _, e1, fun σ' F' H' s1 re' => ⟨B, F0, ρ1, F', re', o, e, ?_, w⟩, fun h => by cases h⟩
    cases o with
    | nx ρ' => exact fun σ2 F2 H2 s2 r2 => q σ2 F2 H2 (s1.trans s2) r2
    | bk ρ' => exact fun σ2 F2 H2 s2 r2 => q σ2 F2 H2 (s1.trans s2) r2
    | ct ρ' => exact fun σ2 F2 H2 s2 r2 => q σ2 F2 H2 (s1.trans s2) r2
    | rt d => exact q
  · next hne =>
    refine ⟨B, F0, ρ, F, re, o, e, ?_, w⟩
    cases o with
    | nx ρ' => exact absurd e (hne ρ')
    | bk ρ' => exact q
    | ct ρ' => exact q
    | rt d => exact q
theorem ssx_one (h : PS X st (tX X.K own W g)) : PSs X [st] (tX X.K own W g) := pss_one h
theorem ssx_nil : PSs X [] (tX X.K own W sNil) := ssx_lift ss_nil
theorem sx_if {c : Expr} {a b : List Stmt} {fc : Ex} (hc : PT X.nox c (tT X.K own fc)) (ha : PSs X a (tX X.K own W g)) (hb : PSs X b (tX X.K own W g')) : PS X (.If c a b pos) (tX X.K own W (sIf fc g g')) := by
  refine ps_weak (ps_if hc.nox ha hb) ?_
  rintro Dn σ H ⟨B, F0, ρ, F, re, o, e, q, w⟩
  have go : ∀ (gg : Sx), gg ρ = some o → ∀ F1 H1, Grow F H F1 H1 → tX X.K own W gg Dn σ H1 := fun gg eg F1 H1 g1 => by
    refine ⟨B, F0, ρ, F1, re.grow g1, o, eg, ?_, w⟩
    cases o with
    | nx ρ' => exact fun σ2 F2 H2 s2 r2 => q σ2 F2 H2 (g1.ff.trans s2) r2
    | bk ρ' => exact fun σ2 F2 H2 s2 r2 => q σ2 F2 H2 (g1.ff.trans s2) r2
    | ct ρ' => exact fun σ2 F2 H2 s2 r2 => q σ2 F2 H2 (g1.ff.trans s2) r2
    | rt d => exact q
  unfold sIf at e
  split at e
  · next ec => exact ⟨B, F0, ρ, F, re, true, ec, fun F1 H1 g1 => iteT (go g e F1 H1 g1)⟩
  · next ec => exact ⟨B, F0, ρ, F, re, false, ec, fun F1 H1 g1 => iteF (go g' e F1 H1 g1)⟩
  · cases e
theorem RE.blank {K : PySem.W.Frag} {B F0 : Hp} {ρ : Rho} {σ : L2.St} {F H : Hp} (r : RE K B F0 own ρ σ F H) : RE K B F0 own (List.replicate ρ.length none) σ F H := by
  have := r.forget
  rwa [List.map_const'] at this
/-- raise C("..") -/
theorem sx_raise {Wx : WX} {C : Addr} {x m : Str} {j : Nat} {p p2 pos2 : Pos} (hc : X.calm = true) (tk : Takes X Wx) (q : PySem.W.excIn X.K C [.type "ValueError", .type "Exception", .type "BaseException", .type "object"] "ValueError.__new__" = true) (gC : X.mg x = some (.ref C)) (kC : PySem.W.keepIn X.K (.ref C) = true)
    (r1 : PySem.W.subIn X.K (.ref C) (.type "BaseException") = some true) (r2 : PySem.W.typeIn X.K (.ref C) = some (.type "type")) (hg : Gl X x := by rfl) (hdb : (x == ("__debug__" : Str)) = false := by decide) :
    PS X (.Raise (some (.Call (.Name x p) [.Constant (.str m) j p2] [] pos)) none pos2) (tX X.K own (fun σ H => Wx (.ref C) none σ H) sEx) := by
  refine ps_weak (ps_raise hc tk (pmk_own PySem.F.excBase_ValueError q gC kC (raises_own r1 r2) hg hdb)) ?_
  rintro Dn σ H ⟨B, F0, ρ, F, re, o, e, _, w⟩
  cases e
  exact w rfl _ σ F H re.blank
theorem sx_set {i : Nat} {x : Str} {pos' : Pos} (hN : X.N.Nodup) (he : PE X e (tFX X.K own W f)) (ho : own i = false := by rfl) (hi : X.N[i]? = some x := by rfl) (hx : Loc X.env.scope x := by first | exact .inl rfl | exact .inr rfl) (hs : swapsWith e (some (.Name x pos')) pos.line X.env = pure false := by rfl)
    (hf : X.fn x = true ∨ X.env.scope.names.lookup x = some .local := by first | exact .inl rfl | exact .inr rfl | assumption) : PS X (.Assign [.Name x pos'] e pos) (tX X.K own W (sSetX i f)) := by
  refine ps_weak (ps_set hN hi hx he hs hf) ?_
  rintro Dn σ H ⟨B, F0, ρ, F, re, o, e, q, w⟩
  unfold sSetX at e
  cases e1 : f ρ with
  | none => rw [e1] at e; cases e
  | some d =>
    rw [e1] at e
    have e : (if isEx d = true then Out.rt exD else .nx (ρ.set i (some d))) = o := Option.some.inj e
    refine ⟨B, F0, ρ, F, re, d, e1, fun v F1 H1 g1 r1 => ?_, fun hd F1 H1 g1 => ?_⟩
    · by_cases hx : isEx d = true
      · rw [isEx_of hx] at r1
        exact (rp_exD r1).elim
      · rw [if_neg hx] at e
        subst e
        exact q _ F1 H1 g1.ff ((re.grow g1).put ho r1)
    · subst hd
      exact w e.symm _ σ F1 H1 (re.grow g1).blank
theorem sx_exp (he : PE X e (tFX X.K own W f)) (hs : swapsWith e none pos.line X.env = pure false := by rfl) : PS X (.Expr e pos) (tX X.K own W (sExpX f)) := by
  refine ps_weak (ps_expr he hs) ?_
  rintro Dn σ H ⟨B, F0, ρ, F, re, o, e, q, w⟩
  unfold sExpX at e
  cases e1 : f ρ with
  | none => rw [e1] at e; cases e
  | some d =>
    rw [e1] at e
    have e : (if isEx d = true then Out.rt exD else .nx ρ) = o := Option.some.inj e
    refine ⟨B, F0, ρ, F, re, d, e1, fun v F1 H1 g1 r1 => ?_, fun hd F1 H1 g1 => ?_⟩
    · by_cases hx : isEx d = true
      · rw [isEx_of hx] at r1
        exact (rp_exD r1).elim
      · rw [if_neg hx] at e
        subst e
        exact q _ F1 H1 g1.ff (re.grow g1)
    · subst hd
      exact w e.symm _ σ F1 H1 (re.grow g1).blank
end
/-- what a def promises that may raise C -/
def spX (K : PySem.W.Frag) (C : Addr) (G : List D → Option D) : Sp := fun vs H Q E => ∃ F ds d, Same F H ∧ RpAll K F vs ds ∧ G ds = some d ∧ (∀ v F' H', Grow F H F' H' → Rp K F' v d → Q v H') ∧ (d = exD → ∀ F' H', Grow F H F' H' → E (.ref C) none H')
section
variable {X : Cx} {own : Nat → Bool} {k : Nat} {f : Addr} {fd : FuncData} {ps : List Str} {G : List D → Option D} {x : Str} {p pos : Pos} {e : Expr} {es : List Expr} {g : Rho → Option (List D)} {C : Addr}
/-- a def that may raise C, as its callers see it -/
structure CalX (P : Program) (w : World) (K : PySem.W.Frag) (mg : Str → Option Value) (base : Heap) (k : Nat) (x : Str) (ps : List Str) (C : Addr) (G : List D → Option D) : Prop where
  ex : ∃ (f : Addr) (fd : FuncData), FnOk P w K mg base (L2.CX P w) k f fd ps (spX K C G) ∧ mg x = some (.ref f) ∧ PySem.W.keepIn K (.ref f) = true ∧ Binds K fd ps []
/-- .. called where that is taken -/
theorem e_calX {Wx : WX} {j : Nat} (Cl : CalX X.prog X.w X.K X.mg X.base j x ps C G) (tk : Takes X Wx) (hr : Room k X.A) (ha : PA X (e :: es) (tA X.K own g)) (hjk : j ≤ k := by omega) (hg : Gl X x := by rfl)
    (hdb : (x == ("__debug__" : Str)) = false := by decide) (he : starEach (e :: es) X.env = (false, eval e X.env) :: starEach es X.env := by rfl) (hpl : (backTo pos (starEach es X.env)).any (·.1) = false := by rfl) :
    PE X (.Call (.Name x p) (e :: es) [] pos) (tFX X.K own (fun σ H => Wx (.ref C) none σ H) (xCall G g)) := by
  obtain ⟨f, fd, F, m, kp, b⟩ := Cl.ex
  refine pe_weak (pe_callS F (hr.mono hjk) hg m kp b (fun σ => passAt tk σ) ha hdb he hpl) ?_
  rintro σ H Q ⟨B, F0, ρ, F, re, d, e, q, w⟩
  obtain ⟨ds, e1, e2⟩ := xCall_some e
  refine ⟨B, F0, ρ, F, re, ds, e1, fun vs F1 H1 g1 r1 => ?_⟩
  exact ⟨F1, ds, d, g1.fh, r1, e2, fun v F2 H2 g2 r2 => q v F2 H2 (g1.trans g2) r2, fun hd F2 H2 g2 => w hd F2 H2 (g1.trans g2)⟩
theorem e_calN {j : Nat} (Cl : CalX X.prog X.w X.K X.mg X.base j x ps C G) (hr : Room k X.A) (ha : PA X (e :: es) (tA X.K own g)) (hjk : j ≤ k := by omega) (hg : Gl X x := by rfl)
    (hdb : (x == ("__debug__" : Str)) = false := by decide) (he : starEach (e :: es) X.env = (false, eval e X.env) :: starEach es X.env := by rfl) (hpl : (backTo pos (starEach es X.env)).any (·.1) = false := by rfl) :
    PE X (.Call (.Name x p) (e :: es) [] pos) (tF X.K own (xCall (noEx G) g)) := by
  obtain ⟨f, fd, F, m, kp, b⟩ := Cl.ex
  refine pe_weak (pe_callS F (hr.mono hjk) hg m kp b (fun σ => passAt takes0 σ) ha hdb he hpl) ?_
  rintro σ H Q ⟨B, F0, ρ, F, re, d, e, q⟩
  obtain ⟨ds, e1, e2⟩ := xCall_some e
  unfold noEx at e2
  cases e3 : G ds with
  | none => rw [e3] at e2; cases e2
  | some d' =>
    rw [e3] at e2
    have e2 : (if isEx d' = true then none else some d') = some d := e2
    split at e2
    · cases e2
    · next hx =>
      cases e2
      refine ⟨B, F0, ρ, F, re, ds, e1, fun vs F1 H1 g1 r1 => ?_⟩
      exact ⟨F1, ds, d, g1.fh, r1, e3, fun v F2 H2 g2 r2 => q v F2 H2 (g1.trans g2) r2, fun hd => absurd (by rw [hd]; rfl) hx⟩
end
section
variable {P : Program} {w : World} {K : PySem.W.Frag} {mg : Str → Option Value} {base : Heap}
/-- THE RULE for a def that may raise C -/
theorem fn_runX {x qual : Str} {st : Stmt} {f : Addr} {fd : FuncData} {N ps : List Str} {k : Nat} {own : Nat → Bool} {g : Sx} {G : List D → Option D} {C : Addr} (F : Fun K x qual st f fd) (S : FnScope N ps (defScope st)) (ho : ∀ i, i < ps.length → own i = false)
    (hG : ∀ ds d, G ds = some d → runB N.length ps.length g ds = some d)
    (hb : ∀ (cdv : Value) (A : Around) (outer : List Env) (s : Shared) (H : Hp) (E : XK), Room k (A.deeper (envOfC qual (defScope st) s.heap.objs.size f cdv)) → Takes (cxOf (L2.CX P w) P w K mg base N qual (defScope st) f cdv A outer s H E) (fun cls d _ H => E cls d H) →
      PSs (cxOf (L2.CX P w) P w K mg base N qual (defScope st) f cdv A outer s H E) (defBody st) (tX K own (fun _ H => E (.ref C) none H) g)) : FnOk P w K mg base (L2.CX P w) (k + 1) f fd ps (spX K C G) := by
  refine F.okX S (fun vs H Q E h => ?_) (fun cdv A outer s H vs Q E hr h => ?_)
  · obtain ⟨F1, ds, d, fh, r, e, _⟩ := h
    rw [r.length]
    exact runB_len (hG ds d e)
  · obtain ⟨F1, ds, d, fh, r, e, q, wq⟩ := h
    refine ⟨_, hb cdv A outer s H E hr (takes_of rfl rfl rfl rfl), ?_⟩
    have e := hG ds d e
    have hl := runB_len e
    unfold runB at e
    rw [if_pos hl] at e
    cases e1 : g (ds.map some ++ List.replicate (N.length - ds.length) none) with
    | none => rw [e1] at e; cases e
    | some o =>
      rw [e1] at e
      refine ⟨H, F1, _, F1, start_re fh r (fun i hi => ho i (by omega)), o, e1, ?_, fun ho' n σ' F' H' re' => ?_⟩
      · cases o with
        | nx ρ' =>
          cases e
          exact fun σ' F' H' s1 re' => q .non F' H' re'.gr .non
        | rt d' =>
          cases e
          exact q
        | bk ρ' => cases e
        | ct ρ' => cases e
      · subst ho'
        cases e
        exact wq rfl F' H' re'.gr
end
/-! ### try -/
section
variable {X : Cx} {own : Nat → Bool} {x n : Str} {c : Value} {i : Nat} {C : Addr} {body suite : List Stmt} {b₀ : Stmt} {np pos pos' : Pos} {gb : Sx} {d0 : D}
theorem s_try (hs : X.stack = X.env :: X.outer) (hf : X.env.frame = some X.env.locals) (hc : Names X x c) (hm : PySem.W.exmOne X.K (.ref C) c = some true) (gs : Sx) (hd0 : isEx d0 = false)
    (hgs : gs (List.replicate X.N.length none) = some (.rt d0))
    (hb : ∀ (Wx : WX) (pn : List (Addr × Obj)) (xe : Value → Shared → Prop), Takes (X.tr pn xe) Wx → PSs (X.tr pn xe) body (tX X.K own (fun σ H => Wx (.ref C) none σ H) gb))
    (hsu : ∀ (a : Addr) (oe : Obj) (pn : List (Addr × Obj)), PSs (X.suite a ((a, oe) :: pn)) (b₀ :: suite) (tS X.K own gs)) :
    PS X (.Try body [.ExceptHandler (some (.Name x np)) none (b₀ :: suite) pos'] [] [] pos) (tS X.K own (sTry gb d0)) := by
  refine ps_weak (ps_try_only (Wout := fun _ _ _ _ => False) (tb := fun Wx => tX X.K own (fun σ H => Wx (.ref C) none σ H) gb) (ts := fun a cls d Dn σ H => σ.length = X.N.length → tS X.K own gs Dn σ H) hs hf hc takes0 (fun Wx pn xe tk _ => hb Wx pn xe tk)
    (fun a oe cls d pn _ _ => ⟨fun pins s σ H D I h => (hsu a oe pn).run pins s σ H D I (h I.len)⟩)) ?_
  rintro Dn σ H ⟨B, F0, ρ, F, re, o, e, q⟩
  unfold sTry at e
  cases e1 : gb ρ with
  | none => rw [e1] at e; cases e
  | some o1 =>
    rw [e1] at e
    cases o1 with
    | nx ρ' => cases e; exact ⟨B, F0, ρ, F, re, _, e1, q, fun h => by cases h⟩
    | bk ρ' => cases e; exact ⟨B, F0, ρ, F, re, _, e1, q, fun h => by cases h⟩
    | ct ρ' => cases e; exact ⟨B, F0, ρ, F, re, _, e1, q, fun h => by cases h⟩
    | rt d =>
      have e : (if isEx d = true then some (Out.rt d0) else some (.rt d)) = some o := e
      by_cases hx : isEx d = true
      · rw [if_pos hx] at e
        cases e
        obtain rfl := isEx_of hx
        refine ⟨B, F0, ρ, F, re, _, e1, fun v F1 H1 g1 r1 => (rp_exD r1).elim, fun _ n σ' F' H' re' => ⟨true, hm, fun _ a _ hl => ?_, fun h => by cases h⟩⟩
        have hn : n = X.N.length := by
          have := re'.len
          rw [List.length_replicate] at this
          omega
        subst hn
        exact ⟨B, F0, _, F', re', _, hgs, q⟩
      · rw [if_neg hx] at e
        cases e
        exact ⟨B, F0, ρ, F, re, _, e1, q, fun h => by cases h; exact absurd rfl hx⟩
/-- .. except x as n: n's slot is i -/
theorem s_tryAs (hs : X.stack = X.env :: X.outer) (hf : X.env.frame = some X.env.locals) (hN : X.N.Nodup) (hi : X.N[i]? = some n) (hln : X.env.kindOf n = some .local) (hc : Names X x c) (hm : PySem.W.exmOne X.K (.ref C) c = some true) (ho : own i = false) (gs : Addr → Sx) {N : Nat} (hn : X.N.length = N)
    (hgs : ∀ a : Nat, gs a ((List.replicate N none).set i (some (excD a))) = some (.rt d0))
    (hb : ∀ (Wx : WX) (pn : List (Addr × Obj)) (xe : Value → Shared → Prop), Takes (X.tr pn xe) Wx → PSs (X.tr pn xe) body (tX X.K own (fun σ H => Wx (.ref C) none σ H) gb))
    (hsu : ∀ (a : Addr) (oe : Obj) (pn : List (Addr × Obj)), Zc (.ref C) none oe → (∃ vs, oe.data = .fields vs) → PSs (X.suite a ((a, oe) :: pn)) (b₀ :: suite) (tS X.K own (gs a))) :
    PS X (.Try body [.ExceptHandler (some (.Name x np)) (some n) (b₀ :: suite) pos'] [] [] pos) (tS X.K own (sTry gb d0)) := by
  refine ps_weak (ps_try_as (i := i) (Wout := fun _ _ _ _ => False) (tb := fun Wx => tX X.K own (fun σ H => Wx (.ref C) none σ H) gb) (ts := fun a cls d Dn σ H => σ.length = X.N.length → cls = .ref C ∧ d = none ∧ tS X.K own (gs a) Dn σ H) hs hf hN hi hln hc takes0 (fun Wx pn xe tk _ => hb Wx pn xe tk)
    (fun a oe cls d pn hz hd => ⟨fun pins s σ H D I h => by
      obtain ⟨h1, h2, h3⟩ := h I.len
      subst h1 h2
      exact (hsu a oe pn hz hd).run pins s σ H D I h3⟩)) ?_
  rintro Dn σ H ⟨B, F0, ρ, F, re, o, e, q⟩
  unfold sTry at e
  cases e1 : gb ρ with
  | none => rw [e1] at e; cases e
  | some o1 =>
    rw [e1] at e
    cases o1 with
    | nx ρ' => cases e; exact ⟨B, F0, ρ, F, re, _, e1, q, fun h => by cases h⟩
    | bk ρ' => cases e; exact ⟨B, F0, ρ, F, re, _, e1, q, fun h => by cases h⟩
    | ct ρ' => cases e; exact ⟨B, F0, ρ, F, re, _, e1, q, fun h => by cases h⟩
    | rt d =>
      have e : (if isEx d = true then some (Out.rt d0) else some (.rt d)) = some o := e
      by_cases hx : isEx d = true
      · rw [if_pos hx] at e
        cases e
        obtain rfl := isEx_of hx
        refine ⟨B, F0, ρ, F, re, _, e1, fun v F1 H1 g1 r1 => (rp_exD r1).elim, fun _ n' σ' F' H' re' => ⟨true, hm, fun _ a _ hl => ⟨rfl, rfl, ?_⟩, fun h => by cases h⟩⟩
        have hn' : n' = N := by
          have := re'.len
          rw [List.length_replicate] at this
          rw [List.length_set] at hl
          omega
        subst hn'
        exact ⟨B, F0, _, F', re'.put ho (.exc a), _, hgs a, q⟩
      · rw [if_neg hx] at e
        cases e
        exact ⟨B, F0, ρ, F, re, _, e1, q, fun h => by cases h; exact absurd rfl hx⟩
end
section
variable {X : Cx} {own : Nat → Bool} {a C : Addr} {oe : Obj} {pn : List (Addr × Obj)} {p p1 p2 pos : Pos} {i : Nat} {n T : Str} {b : Bool} {cv : Value} {c : V}
theorem e_isE (E : ExcC X.K C) (hz : Zc (.ref C) none oe) (hf : ∃ vs, oe.data = .fields vs) (hT : PE (X.suite a ((a, oe) :: pn)) (.Name T p2) (tC c)) (hc : ∀ u, RelV c u → u = cv) (hk : PySem.W.kitOne X.K (.ref C) cv = some b) (hi : X.mg "isinstance" = none) (ho : own i = false := by rfl)
    (hN : X.N[i]? = some n := by rfl) (hv : Vis X.env.scope n := by first | exact Or.inl rfl | exact Or.inr (Or.inl rfl) | exact Or.inr (Or.inr rfl)) (hd : (n == ("__debug__" : Str)) = false := by decide) (hcd : (n == ("__classdict__" : Str)) = false := by decide)
    (hg : Gl X "isinstance" := by rfl) (hs : starEach [.Name n p1, .Name T p2] X.env = (false, eval (.Name n p1) X.env) :: starEach [.Name T p2] X.env := by rfl) (hs2 : starEach [.Name T p2] X.env = (false, eval (.Name T p2) X.env) :: starEach [] X.env := by rfl)
    (hpl : (backTo pos (starEach [.Name T p2] X.env)).any (·.1) = false := by rfl) :
    PE (X.suite a ((a, oe) :: pn)) (.Call (.Name "isinstance" p) [.Name n p1, .Name T p2] [] pos) (tF X.K own (xIsE i a b)) := by
  refine pe_weak (pe_callB (X := X.suite a ((a, oe) :: pn)) (call_isE E hz hf) hg hi (by decide +kernel) (pa_cons (pe_var (X := X.suite a ((a, oe) :: pn)) hN hv hd hcd) (pa_cons hT pa_nil hs2) hs) (by decide) (by decide) hs hpl) ?_
  rintro σ H Q ⟨B, F0, ρ, F, re, d, e, q⟩
  unfold xIsE at e
  split at e
  · next m h =>
    split at e
    · next hm =>
      cases e
      subst hm
      obtain ⟨v, h1, h2⟩ := re.get i _ h ho
      cases h2
      exact ⟨_, h1, c, cv, b, rfl, hc, hk, q _ F H (.refl re.fh) (.bl _)⟩
    · cases e
  · cases e
end
end Tw

set_option Elab.async false
set_option linter.all false
set_option maxRecDepth 100000
set_option maxHeartbeats 4000000
namespace Tw
open PySem PySem.Spec PyProof.Rows L2
/-! ### enumerate(t), t a tuple -/
theorem meets_en1 {v : Value} {ob : Obj} {J : Heap → Prop} (B : Begins v ob J) :
    Meets (Builtin.«enumerate.__new__» ⟨[.type "enumerate", v], []⟩) (fun _ Rr t => J t.heap ∧ Rr (.ok (.ret (.ref (t.heap.push ob).objs.size))) { t with heap := (t.heap.push ob).push { cls := .type "enumerate", data := .fields #[.none, .bool false, .ref t.heap.objs.size, rawInt 0, .none, .none] } }) :=
  .of_wp fun pr wo Ar Rr t hh => by
    obtain ⟨hp, g, dr, tk, o⟩ := t
    obtain ⟨j1, hfin⟩ := hh
    have sb := sub_enumerate
    have go : ∀ {A' : Around} {E : Value → Shared → Prop} {Q : Value → Shared → Prop}, Q (.ref hp.objs.size) ⟨hp.push ob, g, dr, tk, o⟩ → wpAny (model pr wo) A' (pyIter v) Q E ⟨hp, g, dr, tk, o⟩ := fun q => B.iter pr wo _ _ ⟨hp, g, dr, tk, o⟩ _ j1 q
    wp_walk using go
    refine wpAny_stack_any fun fr => wpAny_pure ?_
    split
    · rename_i cl _ _ _ _ _
      cases (cl == Value.type "enumerate") <;> (wp_walk using go; exact ⟨_, rfl, hfin⟩)
    · (wp_walk using go; exact ⟨_, rfl, hfin⟩)
section
variable {prog : Program} {w : World} {A : Around} {E : Value → Shared → Prop} {s : Shared}
theorem call_en_tuple {t : Addr} {items : Array Value} {Q : Value → Shared → Prop} (hT : s.heap.IsTuple t items)
    (h : ∀ h', IsEnum h' (s.heap.objs.size + 1) s.heap.objs.size 0 .none → h'.IsTupleIter s.heap.objs.size t 0 → (∀ b o, s.heap.get? b = some o → h'.get? b = some o) → Q (.ref (s.heap.objs.size + 1)) { s with heap := h' }) :
    wpAny (model prog w) A (call (.type "enumerate") [.ref t]) Q E s := by
  have hz : ∀ ob : Obj, (s.heap.push ob).objs.size = s.heap.objs.size + 1 := fun ob => Heap.size_push ..
  refine callType_new F.called_enumerate (by decide) (F.typeCall_enumerate_1 _) (F.newCall_enumerate_1 _) (fun obj => F.args_object_init_2 obj _) F.entry_enumerate_new (meets_en1 (begins_tuple t items)) ⟨hT, ?_⟩
  show _ ∧ _
  rw [hz]
  have en : ∀ (ob : Obj) (eo : Obj), eo.isFreed = false → ((s.heap.push ob).push eo).get? (s.heap.objs.size + 1) = some eo := fun ob eo hf => by
    have q := Heap.get?_push_size (s.heap.push ob) (o := eo) hf
    rwa [hz] at q
  have he := en { cls := .type "tuple_iterator", data := .fields #[.ref t, .int 0 0] } { cls := .type "enumerate", data := .fields #[.none, .bool false, .ref s.heap.objs.size, rawInt 0, .none, .none] } rfl
  exact ⟨⟨_, he, rfl⟩, h _ he ⟨_, Heap.get?_push_of_some _ (Heap.get?_push_size _ rfl), rfl, rfl⟩ fun b o x => Heap.get?_push_of_some _ (Heap.get?_push_of_some _ x)⟩
end
/-- the tuple at a as it stands, each item in a new pair -/
def Iten (K : PySem.W.Frag) (a : Addr) : It :=
  ⟨fun i H => ∃ (xs : List V) (x : V), SqT K H a xs ∧ xs[i]? = some x, fun i H v H' => ∃ T x, v = .ref T ∧ H T = none ∧ H' = upd H T (.tup [.int (i : Nat), x]) ∧ ∀ xs, SqT K H a xs → xs[i]? = some x, fun i H => ∃ xs : List V, SqT K H a xs ∧ xs.length = i⟩
theorem en_ne {h : Heap} {e t it : Addr} {c : Int} {old : Value} {items : Array Value} (he : IsEnum h e it c old) (ht : h.IsTuple t items) : e ≠ t := fun q => by
  subst q
  obtain ⟨o, ho, hc, _⟩ := ht
  have : some o = _ := ho.symm.trans he
  cases this
  exact absurd (Value.type.inj hc) (by decide)
theorem ti_ne {h : Heap} {it t : Addr} {i : Nat} {items : Array Value} (hi : h.IsTupleIter it t i) (ht : h.IsTuple t items) : t ≠ it := fun q => by
  subst q
  obtain ⟨o, ho, hc, _⟩ := ht
  obtain ⟨o', ho', hc', _⟩ := hi
  have : some o = some o' := ho.symm.trans ho'
  cases this
  rw [hc] at hc'
  exact absurd (Value.type.inj hc') (by decide)
theorem turn_en {P : Program} {w : World} {K : PySem.W.Frag} {elts : List Expr} {kk : Nat} {tpos : Pos} (a e it : Addr) :
    Turn P w K (.Tuple elts kk tpos) (Iten K a) [e, it] e (fun i h => (∃ old, IsEnum h e it ((i : Nat) : Int) old) ∧ h.IsTupleIter it a i ∧ e ≠ it) where
  mem := List.mem_cons_self
  obj := fun i h st b hb => by
    obtain ⟨⟨old, he⟩, ⟨o, ho, hc, hd⟩, _⟩ := st
    rcases List.mem_cons.mp hb with rfl | hb
    · exact ⟨_, he, fun v q => nomatch q⟩
    · rw [List.mem_singleton.mp hb]
      exact ⟨o, ho, fun v q => by rw [hd] at q; cases q⟩
  keep := fun i h h' st k => let ⟨⟨old, he⟩, hi, hne⟩ := st; ⟨⟨old, k e List.mem_cons_self _ he⟩, hi.at fun o q => k it (List.mem_cons_of_mem _ List.mem_cons_self) o q, hne⟩
  item := by
    intro X hP hw hK hc i pins s σ H E I hf st hg
    subst hP hw hK
    obtain ⟨⟨old, he⟩, hit, hne⟩ := st
    obtain ⟨xs, x, hq, hx⟩ := hg
    obtain ⟨its, rv, p, hz⟩ := I.tuple hq
    obtain ⟨u, hu, ru⟩ := rv.get hx
    have ht : s.heap.IsTuple a its.toArray := p
    have h1 : e ≠ a := en_ne he ht
    have h2 : a ≠ it := ti_ne hit ht
    have hel : e < s.heap.objs.size := Heap.lt_size he
    have hil : it < s.heap.objs.size := by
      obtain ⟨_, q, _⟩ := hit
      exact Heap.lt_size q
    have hlt : i < its.toArray.size := by
      rw [List.size_toArray]
      exact (List.getElem?_eq_some_iff.mp hu).1
    refine wpAny_pyNext_enum_itemD (Draws.tuple (A := X.A.in1) (I.ok.hd hc) it a h2 its.toArray) he ⟨hit, ht⟩ hlt hne (by simp [hne, h1]) fun y h' tk hy ho hst hT hsz hk => ?_
    have ey : y = u := by
      have e1 : its[i]? = some y := by simpa using hy
      rw [hu] at e1
      exact (Option.some.inj e1).symm
    subst ey
    refine ⟨_, rfl, wpAny_letOwnedTupleGo_enum (s := { s with heap := h', toks := tk + 1 }) ho fun h'' he' sb => ?_⟩
    have hT2 := (sb.2 _ (Nat.ne_of_gt hel)).trans hT
    have new : ObjOk X.prog X.w (upd H s.heap.objs.size (.tup [.int (i : Nat), x])) h'' s.heap.objs.size (.tup [.int (i : Nat), x]) :=
      ⟨(by decide : 2 ≤ sizeLine), [.int i tk, y], .cons ⟨_, rfl⟩ (.cons ru .nil), ⟨_, hT2, rfl, _, rfl⟩⟩
    have kk2 : ∀ b ob, b ∉ [e, it] → s.heap.get? b = some ob → h''.get? b = some ob := fun b ob hb q => by
      have n1 : b ≠ e := fun z => hb (by rw [z]; exact List.mem_cons_self)
      have n2 : b ≠ it := fun z => hb (by rw [z]; exact List.mem_cons_of_mem _ List.mem_cons_self)
      exact (sb.2 b n1).trans (hk b ob n1 n2 q)
    have I1 : Inv X pins σ (upd H s.heap.objs.size (.tup [.int (i : Nat), x])) { s with heap := h'', toks := tk + 1 } := I.turnedNew (ch := [e, it]) kk2 hf (Nat.le_refl _) new
    refine ⟨.ref s.heap.objs.size, _, I1, rfl, ⟨_, x, rfl, I.hok.fresh (Nat.le_refl _), rfl, fun ys hy => by rw [I.tuple_inj hy hq]; exact hx⟩, ⟨⟨y, ?_⟩, hst.1.at fun o q => (sb.2 it (Ne.symm hne)).trans q, hne⟩, fun b hb => ?_⟩
    · rw [show ((i + 1 : Nat) : Int) = (i : Int) + 1 from rfl]
      exact he'
    · have hb' : b < s.heap.objs.size := by
        rcases List.mem_cons.mp hb with z | z
        · rw [z]; exact hel
        · rw [List.mem_singleton.mp z]; exact hil
      rw [upd_ne (Nat.ne_of_lt hb')]
      exact (hf b hb).1
  done := by
    intro X hP hw hK hc i pins s σ H E I hf st hg
    subst hP hw hK
    obtain ⟨⟨old, he⟩, hit, hne⟩ := st
    obtain ⟨xs, hq, hx⟩ := hg
    obtain ⟨its, rv, p, hz⟩ := I.tuple hq
    have ht : s.heap.IsTuple a its.toArray := p
    obtain ⟨f0, f1, f2, f3, f4, f5⟩ := hf it (List.mem_cons_of_mem _ List.mem_cons_self)
    have hl := rv.length
    have hi : i = its.toArray.size := by rw [List.size_toArray]; omega
    subst hi
    exact wpAny_pyNext_enum_endD (Draws.tuple (A := X.A.in1) (I.ok.hd hc) it a (ti_ne hit ht) its.toArray) he ⟨hit, ht⟩ fun h' eb => ⟨rfl, I.turned (t' := s.toks) (fun b o hb q => eb b o hb q) f0 f1 f3 f4 f5⟩
  self := fun A i s Q E st h => let ⟨⟨_, he⟩, _⟩ := st; wpAny_pyIter_enum he h
/-- enumerate of a list, or of a tuple -/
def iEnA (K : PySem.W.Frag) (ta : TA) : TI := fun σ H R => ta σ H fun vs H1 => ∃ a xs, vs = [.ref a] ∧ ((SqL K H1 a xs ∧ R (Ite K a) H1) ∨ (SqT K H1 a xs ∧ R (Iten K a) H1))
theorem pi_enA {X : Cx} {e : Expr} {ta : TA} {p pos tpos : Pos} {elts : List Expr} {kk : Nat} (hg : Gl X "enumerate") (hm : X.mg "enumerate" = none) (ha : PA X [e] ta) (hs : starEach [e] X.env = [(false, eval e X.env)] := by rfl) :
    PI X (.Tuple elts kk tpos) (.Call (.Name "enumerate" p) [e] [] pos) (iEnA X.K ta) := by
  refine ⟨fun pins s σ H R I h => ?_⟩
  refine Call_ (ld_blt I hg hm PyProof.Rows.boot_enumerate (PyProof.Rows.callWith_type1 (thn (ha.run pos pins s σ H _ I h) fun us s1 hh => ?_) hs rfl))
  obtain ⟨vs, H1, I1, r1, a, xs, ex, hq⟩ := hh
  subst ex
  cases r1 with
  | cons r rr =>
    cases rr
    cases r
    have fp : ∀ b ∈ [s1.heap.objs.size + 1, s1.heap.objs.size], FpOk X pins H1 b := fun b hb => by
      have hle : s1.heap.objs.size ≤ b := by
        rcases List.mem_cons.mp hb with z | z
        · rw [z]; exact Nat.le_succ _
        · rw [List.mem_singleton.mp z]; exact Nat.le_refl _
      exact I1.fpOk hle (I1.hok.fresh hle)
    rcases hq with ⟨hq, q⟩ | ⟨hq, q⟩
    · obtain ⟨its, rv, p', hz⟩ := I1.list hq
      refine call_enumerate_list p'.isList fun h' he hit hsz hk => wpAny_pyIter_enum he ?_
      have I2 : Inv X pins σ H1 { s1 with heap := h' } := I1.kept (t' := s1.toks) hk
      exact ⟨s1.heap.objs.size + 1, [s1.heap.objs.size + 1, s1.heap.objs.size], _, _, H1, rfl, I2, turn_enum a (s1.heap.objs.size + 1) s1.heap.objs.size, ⟨⟨.none, he⟩, hit, Nat.succ_ne_self _⟩, fp, q⟩
    · obtain ⟨its, rv, p', hz⟩ := I1.tuple hq
      refine call_en_tuple (items := its.toArray) p' fun h' he hit hk => wpAny_pyIter_enum he ?_
      have I2 : Inv X pins σ H1 { s1 with heap := h' } := I1.kept (t' := s1.toks) hk
      exact ⟨s1.heap.objs.size + 1, [s1.heap.objs.size + 1, s1.heap.objs.size], _, _, H1, rfl, I2, turn_en a (s1.heap.objs.size + 1) s1.heap.objs.size, ⟨⟨.none, he⟩, hit, Nat.succ_ne_self _⟩, fp, q⟩
theorem enumD_at : ∀ {a : List D} {n i : Nat} {x : D}, a[i]? = some x → (enumD n a)[i]? = some (.tuple [.int ((n + i : Nat) : Int), x])
  | [], _, i, _, h => by simp at h
  | a :: r, n, 0, x, h => by
    simp at h
    rw [enumD, h]
    rfl
  | a :: r, n, i + 1, x, h => by
    rw [enumD]
    have := enumD_at (a := r) (n := n + 1) (i := i) (x := x) (by simpa using h)
    rw [show n + (i + 1) = n + 1 + i by omega]
    exact this
theorem enumD_len : ∀ {a : List D} {n : Nat}, (enumD n a).length = a.length
  | [], _ => rfl
  | a :: r, n => by rw [enumD, List.length_cons, List.length_cons, enumD_len]
section
variable {X : Cx} {own : Nat → Bool} {a : Expr} {fa : Ex} {p pos tpos : Pos} {elts : List Expr} {kk : Nat}
/-- walking an enumerated tuple -/
theorem walks_en {K : PySem.W.Frag} {fz : Bool} {F1 H1 : Hp} {t : Addr} {vs : List V} {ds : List D} (k1 : F1 t = some (.tup vs)) (k3 : RpAll K F1 vs ds) : Walks K fz F1 H1 (Iten K t) (enumD 0 ds) := by
  intro F2 H2 s1 s2 s3
  have k1' : SqT K H2 t vs := .of (s2 _ _ (s1 _ _ k1))
  have hl := k3.length
  rw [enumD_len]
  refine ⟨fun i hi => ⟨vs, vs[i]'(by omega), k1', List.getElem?_eq_getElem _⟩, ⟨vs, k1', hl⟩, fun i z H' hi y => ?_⟩
  obtain ⟨T, u, rfl, hT, rfl, y1⟩ := y
  obtain ⟨d1, z1, z2⟩ := k3.getV (y1 _ k1')
  have g2 : Grow F2 H2 (upd F2 T (.tup [.int (i : Nat), u])) (upd H2 T (.tup [.int (i : Nat), u])) := .new s2 hT
  have e1 := enumD_at (n := 0) z1
  rw [Nat.zero_add] at e1
  exact ⟨_, _, g2, e1, .tup upd_same (show 2 ≤ LIM by decide) (.cons (.int _) (.cons (Rp.mono (s1.trans g2.ff) z2) .nil))⟩
theorem i_enumT {fz : Bool} (hm : X.mg "enumerate" = none) (ha : PE X a (tB X.K own fa)) (hg : Gl X "enumerate" := by rfl) (hs : starEach [a] X.env = [(false, eval a X.env)] := by rfl) :
    PI X (.Tuple elts kk tpos) (.Call (.Name "enumerate" p) [a] [] pos) (tI X.K own fz (iEnumT fa)) := by
  refine pi_weak (pi_enA hg hm (ab_cons ha ab_nil hs) hs) ?_
  rintro σ H R ⟨B, F0, ρ, F, re, ds, e, q⟩
  unfold iEnumT at e
  split at e <;> cases e
  · next x e1 =>
    refine ⟨B, F0, ρ, F, re, [.tuple x], by simp [xCons, xNil, e1], fun vs F1 H1 g1 r1 => ?_⟩
    obtain ⟨v, rfl, b1⟩ := br1 r1
    obtain ⟨t, ws, rfl, k0, k1, k2, k3⟩ := b1.tup g1.fh
    exact ⟨t, ws, rfl, .inr ⟨.of k1, q _ F1 H1 g1 (walks_en k0 k3)⟩⟩
end
end Tw

set_option Elab.async false
set_option linter.all false
set_option maxRecDepth 100000
set_option maxHeartbeats 4000000
namespace Tw
open PySem PySem.Spec PyProof.Rows L2
/-- an error class of the program -/
structure ExcW (K : PySem.W.Frag) (mg : Str → Option Value) (x : Str) (C : Addr) : Prop where
  g : mg x = some (.ref C)
  q : PySem.W.excIn K C [.type "ValueError", .type "Exception", .type "BaseException", .type "object"] "ValueError.__new__" = true
  k : PySem.W.keepIn K (.ref C) = true
  r1 : PySem.W.subIn K (.ref C) (.type "BaseException") = some true
  r2 : PySem.W.typeIn K (.ref C) = some (.type "type")
  e : ExcC K C
theorem cls_of {K : PySem.W.Frag} {D : Addr} (h : PySem.W.hasDictIn K D = true) : (PySem.W.clsIn K D).isSome = true := by
  obtain ⟨cd, hc, _⟩ := PySem.W.any_some h
  rw [hc]
  rfl
theorem kit_ref {K : PySem.W.Frag} {C D : Addr} {b : Bool} (hd : PySem.W.hasDictIn K D = true) (ht : PySem.W.typeIn K (.ref D) = some (.type "type")) (h4 : PySem.W.subIn K (.ref C) (.ref D) = some b) (hc : PySem.W.subIn K (.ref C) (.ref C) = some true) : PySem.W.kitOne K (.ref C) (.ref D) = some b := by
  unfold PySem.W.kitOne
  by_cases e : (Value.ref C == Value.ref D) = true
  · rw [if_pos e]
    have e' : C = D := Value.ref.inj (beq_iff_eq.mp e)
    subst e'
    rw [hc] at h4
    exact h4
  · rw [if_neg e]
    unfold PySem.W.kitCls
    show (if ((PySem.W.clsIn K D).isSome && PySem.W.typeIn K (.ref D) == some (.type "type")) = true then PySem.W.subIn K (.ref C) (.ref D) else none) = some b
    rw [cls_of hd, ht, if_pos (by rfl)]
    exact h4
theorem kit_ty {K : PySem.W.Frag} {C : Addr} {T : String} {b : Bool} (hm : PySem.W.kitMeta T = true) (h4 : PySem.W.subIn K (.ref C) (.type T) = some b) : PySem.W.kitOne K (.ref C) (.type T) = some b := by
  unfold PySem.W.kitOne
  rw [if_neg (show ¬ ((Value.ref C == Value.type T) = true) from fun e => nomatch (beq_iff_eq.mp e))]
  show (if PySem.W.kitMeta T = true then PySem.W.subIn K (.ref C) (.type T) else none) = some b
  rw [if_pos hm]
  exact h4
section
variable {X : Cx} {own : Nat → Bool} {a : Expr} {fa : Ex} {sep : Str} {k : Nat} {p1 apos cpos : Pos}
/-- "..".join(words) -/
theorem e_join (ha : PE X a (tB X.K own fa)) (hb : attributeBase (.Constant (.str sep) k p1) "join" X.env (eval (.Constant (.str sep) k p1) X.env) = eval (.Constant (.str sep) k p1) X.env := by rfl) (hl : (apos.endLine == cpos.line) = true := by rfl)
    (hs : starEach [a] X.env = [(false, eval a X.env)] := by rfl) : PE X (.Call (.Attribute (.Constant (.str sep) k p1) "join" apos) [a] [] cpos) (tF X.K own (x1 (dJoin (.str sep)) fa)) := by
  refine pe_weak (pe_join pe_str ha hs hb hl) ?_
  rintro σ H Q ⟨B, F0, ρ, F, re, d, e, q⟩
  obtain ⟨x, e1, e2⟩ := x1_some e
  cases x <;> simp only [dJoin] at e2 <;> try cases e2
  next ds =>
  cases e3 : strsOf ds with
  | none => rw [e3] at e2; cases e2
  | some ys =>
    rw [e3] at e2
    dsimp only [Option.bind_some] at e2
    split at e2 <;> cases e2
    rename_i hz
    refine ⟨⟨_, rfl⟩, B, F0, ρ, F, re, _, e1, fun v F1 H1 g1 b1 => ?_⟩
    obtain ⟨p, vs, rfl, k1, k2, k3⟩ := Br.lst g1.fh b1
    rw [strsOf_some e3] at k3
    rw [k3.strs] at k1
    exact ⟨_, p, ys, rfl, rfl, .inl (.of k1), hz, q _ F1 H1 g1 (.str _)⟩
end
end Tw

set_option Elab.async false
set_option linter.all false
set_option maxRecDepth 100000
set_option maxHeartbeats 4000000
namespace Tw
open PySem PySem.Spec PyProof.Rows L2
/-! ### xs.count(k), xs.index(x) -/
section
variable {X : Cx} {own : Nat → Bool} {a b : Expr} {fa fb : Ex} {apos cpos : Pos} {n : Nat}
theorem e_count (ha : PE X a (tB X.K own fa)) (hb : PE X b (tB X.K own fb)) (hbase : attributeBase a "count" X.env (eval a X.env) = eval a X.env := by rfl)
    (hfew : ((backTo cpos (starEach (b :: []) X.env)).all (fun x => !x.1) && (backToKw cpos (keywordEach [] X.env)).all (fun x => x.1.isSome) && decide ((b :: []).length + ([] : List Keyword).length + (if ([] : List Keyword).isEmpty then 0 else 1) < 30)) = true := by rfl)
    (hline : (apos.endLine == cpos.line) = true := by rfl) (hs : starEach (b :: []) X.env = (false, eval b X.env) :: starEach [] X.env := by rfl) (hpl : (backTo cpos (starEach [] X.env)).any (·.1) = false := by rfl) :
    PE X (.Call (.Attribute a "count" apos) [b] [] cpos) (tF X.K own (x2 dCount fa fb)) := by
  refine pe_weak (pe_bm PySem.F.plainAttrs_list PySem.F.slot_list_count PySem.F.type_list_count mt_lcount ha (pa_cons hb pa_nil hs) hbase hfew hline hs hpl) ?_
  rintro σ H Q ⟨B, F0, ρ, F, re, d, e, q⟩
  obtain ⟨x, y, e1, e2, e3⟩ := x2_some e
  cases x <;> simp only [dCount] at e3 <;> try cases e3
  next ds =>
  cases y <;> simp only [dCount] at e3 <;> try cases e3
  next k =>
  cases e4 : intsOf ds with
  | none => rw [e4] at e3; cases e3
  | some ns =>
    rw [e4] at e3
    cases e3
    refine ⟨B, F0, ρ, F, re, _, e1, fun v F1 H1 g1 b1 => ?_⟩
    obtain ⟨p, vs, rfl, k1, k2, k3⟩ := b1.lst g1.fh
    refine ⟨.inl ⟨rfl, _, .of k1⟩, B, F0, ρ, F1, re.grow g1, _, e2, fun u F2 H2 g2 b2 => ?_⟩
    rw [intsOf_some e4] at k3
    rw [k3.ints] at k1
    obtain rfl : u = V.int k := by
      exact b2.int
    exact ⟨p, ns, k, rfl, rfl, .of (g2.hh _ _ k1), q _ F2 H2 (g1.trans g2) (.int _)⟩
theorem findIdx_some {α : Type} {p : α → Bool} : ∀ {l : List α} {j : Nat}, l.findIdx? p = some j → (∃ z, l[j]? = some z ∧ p z = true) ∧ ∀ (m : Nat) (z : α), m < j → l[m]? = some z → p z = false
  | [], j, h => by cases h
  | x :: r, j, h => by
    rw [List.findIdx?_cons] at h
    cases hx : p x with
    | true =>
      rw [hx, if_pos rfl] at h
      cases h
      exact ⟨⟨x, rfl, hx⟩, fun m z hm => absurd hm (Nat.not_lt_zero _)⟩
    | false =>
      rw [hx, if_neg Bool.false_ne_true] at h
      cases e : r.findIdx? p with
      | none => rw [e] at h; cases h
      | some i =>
        rw [e] at h
        cases h
        obtain ⟨⟨z, h1, h2⟩, h3⟩ := findIdx_some e
        refine ⟨⟨z, h1, h2⟩, fun m z' hm hz => ?_⟩
        cases m with
        | zero => cases hz; exact hx
        | succ m => exact h3 m z' (Nat.lt_of_succ_lt_succ hm) hz
theorem e_index (hr : Room n X.A) (ha : PE X a (tB X.K own fa)) (hb : PE X b (tB X.K own fb)) (hbase : attributeBase a "index" X.env (eval a X.env) = eval a X.env := by rfl)
    (hfew : ((backTo cpos (starEach (b :: []) X.env)).all (fun x => !x.1) && (backToKw cpos (keywordEach [] X.env)).all (fun x => x.1.isSome) && decide ((b :: []).length + ([] : List Keyword).length + (if ([] : List Keyword).isEmpty then 0 else 1) < 30)) = true := by rfl)
    (hline : (apos.endLine == cpos.line) = true := by rfl) (hs : starEach (b :: []) X.env = (false, eval b X.env) :: starEach [] X.env := by rfl) (hpl : (backTo cpos (starEach [] X.env)).any (·.1) = false := by rfl) :
    PE X (.Call (.Attribute a "index" apos) [b] [] cpos) (tF X.K own (x2 dIndex fa fb)) := by
  refine pe_weak (pe_bm PySem.F.plainAttrs_list PySem.F.slot_list_index PySem.F.type_list_index (mt_indexD (u65 hr)) ha (pa_cons hb pa_nil hs) hbase hfew hline hs hpl) ?_
  rintro σ H Q ⟨B, F0, ρ, F, re, d, e, q⟩
  obtain ⟨x, y, e1, e2, e3⟩ := x2_some e
  cases x <;> simp only [dIndex] at e3 <;> try cases e3
  next ds =>
  split at e3
  case isFalse => cases e3
  next hsh =>
  cases e4 : ds.findIdx? (fun z => PyData.eqv z y) with
  | none => rw [e4] at e3; cases e3
  | some j =>
    rw [e4] at e3
    cases e3
    obtain ⟨⟨z, z1, z2⟩, z3⟩ := findIdx_some e4
    refine ⟨B, F0, ρ, F, re, _, e1, fun v F1 H1 g1 b1 => ?_⟩
    obtain ⟨p, vs, rfl, k1, k2, k3⟩ := b1.lst g1.fh
    refine ⟨.inl ⟨rfl, _, .of k1⟩, B, F0, ρ, F1, re.grow g1, _, e2, fun u F2 H2 g2 b2 => ?_⟩
    have d1 := (b1.grow g2).dp g2.fh (SeqAt.canLay_of_shaped hsh.1)
    have d2 := b2.dp g2.fh (SeqAt.canLay_of_shaped hsh.2)
    exact ⟨p, u, y, ds, j, z, rfl, rfl, d1, d2, hsh.1, hsh.2, z1, z2, z3, q _ F2 H2 (g1.trans g2) (.int _)⟩
end
end Tw

set_option Elab.async false
set_option linter.all false
set_option maxRecDepth 100000
set_option maxHeartbeats 4000000
namespace Tw
open PySem PySem.Spec PyProof.Rows L2

/-! ### a list of one's own lists of ints -/
structure NL (B F H : Hp) (a : Addr) (bs : List Addr) (M : List (List Int)) : Prop where
  hh : H a = some (.lst (bs.map V.ref))
  hf : F a = none
  hb : B a = none
  len : bs.length = M.length
  nd : bs.Nodup
  na : a ∉ bs
  row : ∀ (i : Nat) (b : Addr) (row : List Int), bs[i]? = some b → M[i]? = some row → H b = some (.lst (row.map V.int)) ∧ F b = none ∧ B b = none ∧ row.length ≤ 100
section
variable {B F H F' H' F0 : Hp} {a : Addr} {bs : List Addr} {M : List (List Int)} {K : PySem.W.Frag} {own : Nat → Bool} {ρ : Rho} {σ : L2.St}
theorem NL.grow (n : NL B F H a bs M) (g : Grow F H F' H') : NL B F' H' a bs M :=
  ⟨g.hh _ _ n.hh, (g.nf _ _ n.hh).trans n.hf, n.hb, n.len, n.nd, n.na, fun i b row h1 h2 => by
    obtain ⟨k1, k2, k3, k4⟩ := n.row i b row h1 h2
    exact ⟨g.hh _ _ k1, (g.nf _ _ k1).trans k2, k3, k4⟩⟩
theorem nodup_ix {l : List Addr} (nd : l.Nodup) {i j : Nat} {b : Addr} (h1 : l[i]? = some b) (h2 : l[j]? = some b) : i = j := by
  have hi := (List.getElem?_eq_some_iff.mp h1).1
  exact (List.getElem?_inj hi nd).mp (h1.trans h2.symm)
theorem NL.put (n : NL B F H a bs M) {i : Nat} {b : Addr} {row row' : List Int} (h1 : bs[i]? = some b) (h2 : M[i]? = some row) (hl : row'.length ≤ 100) : NL B F (upd H b (.lst (row'.map V.int))) a bs (M.set i row') := by
  have hab : a ≠ b := fun z => n.na (z ▸ List.mem_of_getElem? h1)
  obtain ⟨k1, k2, k3, k4⟩ := n.row i b row h1 h2
  refine ⟨by rw [upd_ne hab]; exact n.hh, n.hf, n.hb, by rw [List.length_set]; exact n.len, n.nd, n.na, fun j c r' q1 q2 => ?_⟩
  by_cases hj : i = j
  · subst hj
    rw [h1] at q1
    cases q1
    rw [List.getElem?_set_self (List.getElem?_eq_some_iff.mp h2).1] at q2
    cases q2
    exact ⟨upd_same, k2, k3, hl⟩
  · rw [List.getElem?_set_ne hj] at q2
    have hcb : c ≠ b := fun z => hj (nodup_ix n.nd h1 (z ▸ q1))
    obtain ⟨l1, l2, l3, l4⟩ := n.row j c r' q1 q2
    exact ⟨by rw [upd_ne hcb]; exact l1, l2, l3, l4⟩
end

/-! ### rows[i][j] = rows[i][j] + c -/
def tInc (r i j : Nat) (c : Int) : TS := fun Dn σ H => ∃ (a : Addr) (bs : List V) (p q : Int) (b : Addr) (row : List Int) (k : Nat) (x : Int), σ[r]? = some (some (.ref a)) ∧ σ[i]? = some (some (.int p)) ∧ σ[j]? = some (some (.int q)) ∧
  H a = some (.lst bs) ∧ atI bs p = some (.ref b) ∧ H b = some (.lst (row.map V.int)) ∧ ixN row.length q = some k ∧ row[k]? = some x ∧ Dn.nx σ (upd H b (.lst ((row.set k (x + c)).map V.int)))
section
variable {X : Cx}
theorem map_setI (row : List Int) (k : Nat) (x : Int) : (row.map V.int).set k (.int x) = (row.set k x).map V.int := by
  rw [List.map_set]
theorem at_ints {row : List Int} {q : Int} {k : Nat} {x : Int} (h1 : ixN row.length q = some k) (h2 : row[k]? = some x) : atI (row.map V.int) q = some (.int x) := by
  unfold atI
  rw [List.length_map, h1]
  show (row.map V.int)[k]? = _
  rw [List.getElem?_map, h2]
  rfl
theorem ps_inc {r i j : Nat} {c : Int} {op : Operator} {x y z : Str} {p1 p2 p3 p4 p5 q1 q2 q3 q4 q5 q6 q7 pos : Pos} {kk} (hop : OpR X (binaryOp op) (rI0 fun i j => .int (i + c * j)))
    (hx : X.N[r]? = some x := by rfl) (hy : X.N[i]? = some y := by rfl) (hz : X.N[j]? = some z := by rfl)
    (vx : Vis X.env.scope x := by first | exact Or.inl rfl | exact Or.inr (Or.inl rfl) | exact Or.inr (Or.inr rfl)) (vy : Vis X.env.scope y := by first | exact Or.inl rfl | exact Or.inr (Or.inl rfl) | exact Or.inr (Or.inr rfl)) (vz : Vis X.env.scope z := by first | exact Or.inl rfl | exact Or.inr (Or.inl rfl) | exact Or.inr (Or.inr rfl))
    (dx : (x == ("__debug__" : Str)) = false := by decide) (cx : (x == ("__classdict__" : Str)) = false := by decide) (dy : (y == ("__debug__" : Str)) = false := by decide) (cy : (y == ("__classdict__" : Str)) = false := by decide) (dz : (z == ("__debug__" : Str)) = false := by decide) (cz : (z == ("__classdict__" : Str)) = false := by decide)
    (ha : ∀ v, assign (.Subscript (.Subscript (.Name x p1) (.Name y p2) p3) (.Name z p4) p5) X.env v = (do
      let ov ← holding [v] (eval (.Subscript (.Name x p1) (.Name y p2) p3) X.env)
      let iv ← holding [v, ov] (eval (.Name z p4) X.env)
      standAt p5
      holding [v, ov, iv] (setItem ov iv v)
      release [v, ov, iv] []) := by intro _; rfl)
    (hs : swapsWithSole [.Subscript (.Subscript (.Name x p1) (.Name y p2) p3) (.Name z p4) p5] (.BinOp (.Subscript (.Subscript (.Name x q1) (.Name y q2) q3) (.Name z q4) q5) op (.Constant (.int 1) kk q6) q7) pos.line X.env = pure false := by rfl)
    (hw : swappedStores [.Subscript (.Subscript (.Name x p1) (.Name y p2) p3) (.Name z p4) p5] (.BinOp (.Subscript (.Subscript (.Name x q1) (.Name y q2) q3) (.Name z q4) q5) op (.Constant (.int 1) kk q6) q7) X.env = pure none := by rfl)
    (h1 : (assignEach [.Subscript (.Subscript (.Name x p1) (.Name y p2) p3) (.Name z p4) p5] X.env).map (·.2) = [assign (.Subscript (.Subscript (.Name x p1) (.Name y p2) p3) (.Name z p4) p5) X.env] := by rfl) :
    PS X (.Assign [.Subscript (.Subscript (.Name x p1) (.Name y p2) p3) (.Name z p4) p5] (.BinOp (.Subscript (.Subscript (.Name x q1) (.Name y q2) q3) (.Name z q4) q5) op (.Constant (.int 1) kk q6) q7) pos) (tInc r i j c) := by
  refine ps_weak (ps_asg (pe_op hop (pe_ix ix_seq (pe_ix ix_seq (pe_var (i := r) hx vx dx cx) (pe_var (i := i) hy vy dy cy) (fun _ _ => rfl)) (pe_var (i := j) hz vz dz cz) (fun _ _ => rfl)) pe_int)
    (pg_sub (pe_ix ix_seq (pe_var (i := r) hx vx dx cx) (pe_var (i := i) hy vy dy cy) (fun _ _ => rfl)) (pe_var (i := j) hz vz dz cz) set_list ha) hs hw h1) ?_
  rintro Dn σ H ⟨a, bs, p, q, b, row, k, x, e1, e2, e3, e4, e5, e6, e7, e8, e9⟩
  refine ⟨_, e1, _, e2, .inl ⟨a, bs, p, _, rfl, rfl, .of e4, e5, _, e3, .inl ⟨b, row.map V.int, q, .int x, rfl, rfl, .of e6, at_ints e7 e8, ?_⟩⟩⟩
  refine ⟨x, 1, rfl, rfl, ?_⟩
  refine ⟨_, e1, _, e2, .inl ⟨a, bs, p, _, rfl, rfl, .of e4, e5, _, e3, ?_⟩⟩
  refine ⟨b, row.map V.int, q, k, rfl, rfl, e6, by rw [List.length_map]; exact e7, ?_⟩
  show Dn.nx σ (upd H b (.lst ((row.map V.int).set k (.int (x + c * 1)))))
  rw [Int.mul_one, map_setI]
  exact e9
theorem op_add1 : OpR X (binaryOp .Add) (rI0 fun i j => .int (i + 1 * j)) := by
  have e : (fun i j : Int => V.int (i + 1 * j)) = fun i j => V.int (i + j) := by funext i j; rw [Int.one_mul]
  rw [e]
  exact op_add
theorem op_sub1 : OpR X (binaryOp .Sub) (rI0 fun i j => .int (i + (-1) * j)) := by
  have e : (fun i j : Int => V.int (i + (-1) * j)) = fun i j => V.int (i - j) := by funext i j; congr 1; omega
  rw [e]
  exact op_sub
end
/-! ### what is counted -/
def inc (M : List (List Int)) (p q : Nat) (c : Int) : List (List Int) := M.set p ((M.getD p []).set q ((M.getD p []).getD q 0 + c))
def Sq (n : Nat) (M : List (List Int)) : Prop := M.length = n ∧ ∀ row ∈ M, row.length = n
theorem Sq.inc {n : Nat} {M : List (List Int)} (s : Sq n M) {p : Nat} (hp : p < n) (q : Nat) (c : Int) : Sq n (inc M p q c) := by
  unfold Tw.inc
  refine ⟨by rw [List.length_set]; exact s.1, fun row hr => ?_⟩
  rcases List.mem_or_eq_of_mem_set hr with h | h
  · exact s.2 row h
  · rw [h, List.length_set]
    have hp' : p < M.length := by rw [s.1]; exact hp
    rw [List.getD_eq_getElem?_getD, List.getElem?_eq_getElem hp']
    exact s.2 _ (List.getElem_mem hp')
def addE (M : List (List Int)) (e : Nat × Nat) : List (List Int) := inc (inc (inc (inc M e.1 e.1 1) e.2 e.2 1) e.1 e.2 (-1)) e.2 e.1 (-1)
theorem Sq.addE {n : Nat} {M : List (List Int)} (s : Sq n M) {e : Nat × Nat} (h : e.1 < n ∧ e.2 < n) : Sq n (addE M e) := (((s.inc h.1 _ _).inc h.2 _ _).inc h.1 _ _).inc h.2 _ _
section
variable {B F H F0 : Hp} {a : Addr} {bs : List Addr} {M : List (List Int)} {K : PySem.W.Frag} {own : Nat → Bool} {ρ : Rho} {σ : L2.St} {Dn : Ends}
theorem ixN_nat {n q : Nat} (h : q < n) : ixN n (q : Int) = some q := by
  unfold ixN
  rw [if_pos (by omega), if_pos (by omega), Int.toNat_natCast]
theorem inc_ok {n p q r i j : Nat} {c : Int} (s : Sq n M) (hn : n ≤ 100) (hp : p < n) (hq : q < n) (N : NL B F H a bs M) (re : RE K B F0 own ρ σ F H) (ho : ∀ j, own j = false) (h1 : σ[r]? = some (some (.ref a))) (h2 : σ[i]? = some (some (.int p))) (h3 : σ[j]? = some (some (.int q)))
    (k : ∀ H', NL B F H' a bs (inc M p q c) → RE K B F0 own ρ σ F H' → Dn.nx σ H') : tInc r i j c Dn σ H := by
  have hpM : p < M.length := by rw [s.1]; exact hp
  have hpb : p < bs.length := by rw [N.len]; exact hpM
  have e1 : bs[p]? = some bs[p] := List.getElem?_eq_getElem hpb
  have e2 : M[p]? = some M[p] := List.getElem?_eq_getElem hpM
  have hrow : M[p].length = n := s.2 _ (List.getElem_mem hpM)
  obtain ⟨k1, k2, k3, k4⟩ := N.row p _ _ e1 e2
  have hqr : q < M[p].length := by rw [hrow]; exact hq
  refine ⟨a, bs.map V.ref, p, q, bs[p], M[p], q, M[p][q], h1, h2, h3, N.hh, ?_, k1, ixN_nat hqr, List.getElem?_eq_getElem hqr, ?_⟩
  · unfold atI
    rw [List.length_map, ixN_nat hpb]
    show (bs.map V.ref)[p]? = _
    rw [List.getElem?_map, e1]
    rfl
  · have eg : M.getD p [] = M[p] := by rw [List.getD_eq_getElem?_getD, e2]; rfl
    have eg2 : M[p].getD q 0 = M[p][q] := by rw [List.getD_eq_getElem?_getD, List.getElem?_eq_getElem hqr]; rfl
    have N2 := N.put (row' := M[p].set q (M[p][q] + c)) e1 e2 (by rw [List.length_set]; exact k4)
    refine k _ ?_ (re.aside k2 k3 fun j e _ oj => by rw [ho j] at oj; cases oj)
    unfold inc
    rw [eg, eg2]
    exact N2
abbrev tAddE (r i j : Nat) : TS := tSeq (tInc r i i 1) (tSeq (tInc r j j 1) (tSeq (tInc r i j (-1)) (tInc r j i (-1))))
theorem addE_ok {n p q r i j : Nat} (s : Sq n M) (hn : n ≤ 100) (hp : p < n) (hq : q < n) (N : NL B F H a bs M) (re : RE K B F0 own ρ σ F H) (ho : ∀ j, own j = false) (h1 : σ[r]? = some (some (.ref a))) (h2 : σ[i]? = some (some (.int p))) (h3 : σ[j]? = some (some (.int q)))
    (k : ∀ H', NL B F H' a bs (addE M (p, q)) → RE K B F0 own ρ σ F H' → Dn.nx σ H') : tAddE r i j Dn σ H :=
  inc_ok s hn hp hp N re ho h1 h2 h2 fun _ N re => inc_ok (s.inc hp _ _) hn hq hq N re ho h1 h3 h3 fun _ N re => inc_ok ((s.inc hp _ _).inc hq _ _) hn hp hq N re ho h1 h2 h3 fun _ N re =>
    inc_ok (((s.inc hp _ _).inc hq _ _).inc hp _ _) hn hq hp N re ho h1 h3 h2 fun _ N re => k _ N re
end
/-! ### [[0] * n for .. in ..] -/
def dMulL : D → D → Option D
  | .list a, .int k => if 0 ≤ k ∧ k ≤ 1000 ∧ a.length ≤ 1000 then some (.list (List.replicate k.toNat a).flatten) else none
  | _, _ => none
section
variable {X : Cx} {own : Nat → Bool}
theorem ok_mulN : OpOk .nw X.K rRep dMulL := by
  intro F H x y dx dy d Q fh bx byy e q
  cases dx <;> cases dy <;> simp only [dMulL] at e <;> try cases e
  next a k =>
    split at e <;> cases e
    rename_i hc
    obtain ⟨p, vs, rfl, h1, h2, h3⟩ := bx.lst fh
    rw [Br.int byy]
    have hm : vs.length * k.toNat ≤ LIM := by
      rw [h3.length]
      exact Nat.le_trans (Nat.mul_le_mul (m₂ := 1000) hc.2.2 (by omega)) (by decide)
    refine ⟨p, k, vs, rfl, rfl, h1, by omega, by omega, Nat.le_trans hm lim_le, fun p hp => ?_⟩
    have fl := h3.flat k.toNat
    refine q _ F _ (.own fh hp) ⟨p, _, _, rfl, rfl, hp, fh.free hp, upd_same, ?_, fl⟩
    rw [List.length_flatten, List.map_replicate, List.sum_replicate_nat, Nat.mul_comm]
    exact hm
theorem n_mulL {a b : Expr} {fa fb : Ex} {pos : Pos} (ha : PE X a (tB X.K own fa)) (hb : PE X b (tB X.K own fb)) : PE X (.BinOp a .Mult b pos) (tN X.K own (x2 dMulL fa fb)) := e_op op_rep ok_mulN ha hb
end
theorem NL.snoc {B F H : Hp} {a : Addr} {bs : List Addr} {M : List (List Int)} (n : NL B F H a bs M) {b : Addr} {row : List Int} (hb : b ∉ bs) (ha : a ≠ b) (k1 : H b = some (.lst (row.map V.int))) (k2 : F b = none) (k3 : B b = none) (k4 : row.length ≤ 100) :
    NL B F (upd H a (.lst (bs.map V.ref ++ [.ref b]))) a (bs ++ [b]) (M ++ [row]) := by
  refine ⟨by rw [upd_same, List.map_append]; rfl, n.hf, n.hb, by rw [List.length_append, List.length_append, n.len]; rfl, ?_, ?_, fun i c r h1 h2 => ?_⟩
  · rw [List.nodup_append]
    exact ⟨n.nd, by simp, fun x hx y hy e => by rw [List.mem_singleton] at hy; subst hy; exact hb (e ▸ hx)⟩
  · rw [List.mem_append, List.mem_singleton]
    rintro (h | h)
    · exact n.na h
    · exact ha h
  · by_cases hi : i < bs.length
    · rw [List.getElem?_append_left hi] at h1
      rw [List.getElem?_append_left (by rw [← n.len]; exact hi)] at h2
      obtain ⟨l1, l2, l3, l4⟩ := n.row i c r h1 h2
      have hca : c ≠ a := fun z => by subst z; exact n.na (List.mem_of_getElem? h1)
      exact ⟨by rw [upd_ne hca]; exact l1, l2, l3, l4⟩
    · rw [List.getElem?_append_right (by omega)] at h1
      rw [List.getElem?_append_right (by rw [← n.len]; omega)] at h2
      have hi2 := (List.getElem?_eq_some_iff.mp h1).1
      have e0 : i - bs.length = 0 := by rw [List.length_singleton] at hi2; omega
      rw [← n.len] at h2
      rw [e0] at h1 h2
      cases h1
      cases h2
      exact ⟨by rw [upd_ne ha.symm]; exact k1, k2, k3, k4⟩
/-- the reading of a comprehension of new lists -/
theorem comp_nest {K : PySem.W.Frag} {B F0 F H : Hp} {own : Nat → Bool} {ρ : Rho} {σ : L2.St} {fi : It1} {fz : Bool} {gt : Tg} {fe : Ex} {vs : List Nat} {Q : VK} {ds : List D} {row : List Int} (re : RE K B F0 own ρ σ F H) (ho : ∀ j, own j = false) (e1 : fi ρ = some ds) (hl : ds.length ≤ 100) (hrow : row.length ≤ 100)
    (hg : ∀ d ∈ ds, ∃ ρ4, gt d (wipeR ρ vs) = some ρ4 ∧ fe ρ4 = some (.list (row.map .int)))
    (q : ∀ (a : Addr) (bs : List Addr) (F' H' : Hp), Grow F H F' H' → NL B F' H' a bs (List.replicate ds.length row) → Q (.ref a) H') :
    tLc (tI K own fz fi) (tG K own gt vs) (tT K own xYes) (tN K own fe) vs σ H Q := by
  refine ⟨B, F0, ρ, F, re, ds, e1, fun J F1 H1 g1 wk Dd hD => ?_⟩
  have rw0 := (re.grow g1).wiped vs
  have hF : F1 Dd = none := g1.fh.free hD
  have hB : B Dd = none := rw0.bh.free hD
  have hno : ∀ {z : Addr} (j : Nat) (e : D), (wipeR ρ vs)[j]? = some (some e) → own j = true → (wipe σ vs)[j]? = some (some (.ref z)) → False := fun j e _ oj => by rw [ho j] at oj; cases oj
  refine ⟨fun i m H => ∃ F2 bs, m = ds.length - i ∧ i ≤ ds.length ∧ RE K B F0 own (wipeR ρ vs) (wipe σ vs) F2 H ∧ Same F1 F2 ∧ Same H1 H ∧ (∀ a o, H1 a = some o → F2 a = F1 a) ∧ NL B F2 H Dd bs (List.replicate i row),
    ⟨_, F1, [], rfl, Nat.zero_le _, rw0.aside hF hB hno, .refl _, same_upd hD, fun _ _ _ => rfl, ⟨upd_same, hF, hB, rfl, .nil, by simp, fun i b r h => by simp at h⟩⟩, ?_⟩
  rintro i m H2 ⟨F2, bs, rfl, hi, re2, s1, s2, nf, N⟩
  obtain ⟨w1, w2, w3⟩ := wk F2 H2 s1 re2.fh (fun _ => s2)
  by_cases hlt : i < ds.length
  · refine .inr ⟨w1 i hlt, fun H' => ∃ F2 bs, RE K B F0 own (wipeR ρ vs) (wipe σ vs) F2 H' ∧ Same F1 F2 ∧ Same H1 H' ∧ (∀ a o, H1 a = some o → F2 a = F1 a) ∧ NL B F2 H' Dd bs (List.replicate (i + 1) row), ?_, ?_⟩
    · rintro H' ⟨F', bs', h⟩
      exact ⟨ds.length - (i + 1), by omega, F', bs', rfl, hlt, h⟩
    · intro x H3 y
      obtain ⟨F3, dd, g3, ed, rd⟩ := w3 i x H3 hlt y
      obtain ⟨ρ4, e4, e6⟩ := hg dd (List.mem_of_getElem? ed)
      refine ⟨B, F0, _, F3, re2.grow g3, dd, rd, ρ4, e4, fun σ4 re4 hl4 h4 => ⟨?_, ?_⟩⟩
      · have := wipe_eq (vs := vs) hl4 h4
        rw [this]
        apply wipe_eq (wipe_length _ _)
        intro j hj
        exact wipe_at hj
      · refine ⟨B, F0, ρ4, F3, re4, true, rfl, fun F5 H5 g5 => iteT ?_⟩
        refine ⟨B, F0, ρ4, F5, re4.grow g5, _, e6, ?_⟩
        rintro v F6 H6 g6 ⟨b, ws, es, rfl, ez, f1, f2, f3, f4, f5⟩
        cases ez
        have g := (g3.trans g5).trans g6
        have hws : ws = row.map V.int := f5.ints
        subst hws
        have N6 := N.grow g
        have N5 := N.grow (g3.trans g5)
        have hbb : b ∉ bs := fun hb => by
          obtain ⟨j, hj⟩ := List.getElem?_of_mem hb
          have hj2 := (List.getElem?_eq_some_iff.mp hj).1
          rw [N.len] at hj2
          obtain ⟨k1, _⟩ := N5.row j b _ hj (List.getElem?_eq_getElem hj2)
          rw [f1] at k1
          cases k1
        have hab : Dd ≠ b := fun z => by
          have := N5.hh
          rw [z, f1] at this
          cases this
        have hBb : B b = none := (re2.grow (g3.trans g5)).bh.free f1
        refine ⟨bs.map V.ref, N6.hh, ?_, F6, bs ++ [b], (re2.grow g).aside N6.hf hB hno, s1.trans g.ff, ?_, fun a o z => (g.nf a o (s2 _ _ z)).trans (nf a o z), ?_⟩
        · rw [List.length_map, N.len, List.length_replicate]
          exact Nat.lt_of_lt_of_le (Nat.lt_of_lt_of_le hlt hl) (by decide)
        · intro b o z
          rw [upd_ne (ne_of_none z hD)]
          exact g.hh _ _ (s2 _ _ z)
        · rw [List.replicate_succ']
          exact N6.snoc hbb hab f3 f2 hBb hrow
  · have ei : i = ds.length := by omega
    subst ei
    exact .inl ⟨w2, q _ bs F2 H2 (g1.trans ⟨s2, s1, re2.fh, nf⟩) N⟩
/-! ### the loop -/
abbrev lnT (t : Nat × Nat × D) : D := .tuple [.int t.1, .int t.2.1, t.2.2]
abbrev prT (t : Nat × Nat × D) : Nat × Nat := (t.1, t.2.1)
theorem gTu3_some {i j l : Nat} {x y z : D} {ρ : Rho} : gTu [i, j, l] (.tuple [x, y, z]) ρ = some (((ρ.set i (some x)).set j (some y)).set l (some z)) := Eq.trans rfl rfl
theorem tab_for {K : PySem.W.Frag} {B F0 F H : Hp} {own : Nat → Bool} {ρ : Rho} {σ : L2.St} {fi : It1} {Dn : Ends} {its : List (Nat × Nat × D)} {a : Addr} {bs : List Addr} {M : List (List Int)} {n r i j l N : Nat} (re : RE K B F0 own ρ σ F H) (ho : ∀ j, own j = false) (e1 : fi ρ = some (its.map lnT))
    (hok : ∀ t ∈ its, t.1 < n ∧ t.2.1 < n) (hn : n ≤ 100) (s : Sq n M) (hr : r ≠ i ∧ r ≠ j ∧ r ≠ l) (hij : i ≠ j ∧ i ≠ l ∧ j ≠ l) (hi : i < N ∧ j < N ∧ l < N) (hN : ρ.length = N) (h1 : σ[r]? = some (some (.ref a))) (NN : NL B F H a bs M)
    (q : ∀ ρ' σ' F' H', RE K B F0 own ρ' σ' F' H' → Same F F' → ρ'.length = N → σ'[r]? = some (some (.ref a)) → NL B F' H' a bs ((its.map prT).foldl addE M) → Dn.nx σ' H') :
    tFor (tI K own true fi) (tG K own (gTu [i, j, l]) [i, j, l]) (tAddE r i j) Dn σ H := by
  refine ⟨B, F0, ρ, F, re, _, e1, fun J F1 H1 g1 wk => ?_⟩
  refine ⟨fun c m σ H => ∃ ρ F', m = its.length - c ∧ c ≤ its.length ∧ RE K B F0 own ρ σ F' H ∧ Same F1 F' ∧ ρ.length = N ∧ σ[r]? = some (some (.ref a)) ∧ Sq n (((its.take c).map prT).foldl addE M) ∧ NL B F' H a bs (((its.take c).map prT).foldl addE M),
    ⟨_, ρ, F1, rfl, Nat.zero_le _, re.grow g1, .refl _, hN, h1, s, NN.grow g1⟩, ?_⟩
  rintro c m σ2 H2 ⟨ρ2, F2, rfl, hc, re2, s1, hN2, hs2, sq2, N2⟩
  obtain ⟨w1, w2, w3⟩ := wk F2 H2 s1 re2.fh (fun z => nomatch z)
  rw [List.length_map] at w1 w2 w3
  by_cases hlt : c < its.length
  · refine .inr ⟨w1 c hlt, fun σ' H' => ∃ ρ F', RE K B F0 own ρ σ' F' H' ∧ Same F1 F' ∧ ρ.length = N ∧ σ'[r]? = some (some (.ref a)) ∧ Sq n (((its.take (c + 1)).map prT).foldl addE M) ∧ NL B F' H' a bs (((its.take (c + 1)).map prT).foldl addE M), ?_, ?_⟩
    · rintro σ' H' ⟨ρ', F', h⟩
      exact ⟨its.length - (c + 1), by omega, ρ', F', rfl, hlt, h⟩
    · intro x H3 y
      obtain ⟨F3, dd, g3, ed, rd⟩ := w3 c x H3 hlt y
      rw [List.getElem?_map, List.getElem?_eq_getElem hlt] at ed
      cases ed
      have ht := hok its[c] (List.getElem_mem hlt)
      refine ⟨B, F0, ρ2, F3, re2.grow g3, _, rd, _, gTu3_some, fun σ4 re4 hl4 h4 => ?_⟩
      have k0 : σ4[r]? = some (some (.ref a)) := by rw [h4 r (by simp; omega)]; exact hs2
      have z1 : (((ρ2.set i (some (.int (its[c]).1))).set j (some (.int (its[c]).2.1))).set l (some (its[c]).2.2))[i]? = some (some (.int (its[c]).1)) := by
        rw [List.getElem?_set_ne (by omega), List.getElem?_set_ne (by omega), List.getElem?_set_self (by omega)]
      have z2 : (((ρ2.set i (some (.int (its[c]).1))).set j (some (.int (its[c]).2.1))).set l (some (its[c]).2.2))[j]? = some (some (.int (its[c]).2.1)) := by
        rw [List.getElem?_set_ne (by omega), List.getElem?_set_self (by rw [List.length_set]; omega)]
      obtain ⟨v1, y1, r1⟩ := re4.get _ _ z1 (ho _)
      obtain ⟨v2, y2, r2⟩ := re4.get _ _ z2 (ho _)
      cases r1
      cases r2
      refine addE_ok sq2 hn ht.1 ht.2 (N2.grow g3) re4 ho k0 y1 y2 fun H' NN' re' => ?_
      have et : ((its.take (c + 1)).map prT).foldl addE M = addE (((its.take c).map prT).foldl addE M) ((its[c]).1, (its[c]).2.1) := by
        rw [List.take_succ_eq_append_getElem hlt, List.map_append, List.foldl_append]
        rfl
      rw [et]
      exact ⟨_, F3, re', s1.trans g3.ff, by rw [List.length_set, List.length_set, List.length_set]; exact hN2, k0, sq2.addE ht, NN'⟩
  · have ei : c = its.length := by omega
    subst ei
    rw [List.take_length] at N2
    exact .inl ⟨w2, q _ _ _ _ re2 (g1.ff.trans s1) hN2 hs2 N2⟩
/-! ### frozen -/
abbrev rowD (row : List Int) : D := .list (row.map .int)
abbrev matD (M : List (List Int)) : D := .list (M.map rowD)
theorem nl_all {K : PySem.W.Frag} {F : Hp} : ∀ {bs : List Addr} {M : List (List Int)}, bs.length = M.length → (∀ (i : Nat) (b : Addr) (row : List Int), bs[i]? = some b → M[i]? = some row → F b = some (.lst (row.map V.int)) ∧ row.length ≤ 100) → RpAll K F (bs.map V.ref) (M.map rowD)
  | [], [], _, _ => .nil
  | b :: bs, [], h, _ => by cases h
  | [], m :: M, h, _ => by cases h
  | b :: bs, m :: M, h, k => by
    obtain ⟨k1, k2⟩ := k 0 b m rfl rfl
    exact .cons (.lst k1 (by rw [List.length_map]; exact Nat.le_trans k2 (by decide)) (.ofInts _)) (nl_all (Nat.succ.inj h) fun i b row h1 h2 => k (i + 1) b row h1 h2)
theorem nl_froz {K : PySem.W.Frag} {B F0 F H : Hp} {own : Nat → Bool} {ρ : Rho} {σ : L2.St} {a : Addr} {bs : List Addr} {M : List (List Int)} {r : Nat} (re : RE K B F0 own ρ σ F H) (ho : ∀ j, own j = false) (hs : σ[r]? = some (some (.ref a))) (hl : M.length ≤ 100) (N : NL B F H a bs M) :
    ∃ F', Same F F' ∧ RE K B F0 own (ρ.set r (some (.list (M.map rowD)))) σ F' H := by
  have fb : ∀ x, x ∈ bs → F x = none ∧ B x = none := fun x hx => by
    obtain ⟨j, hj⟩ := List.getElem?_of_mem hx
    have hj2 := (List.getElem?_eq_some_iff.mp hj).1
    rw [N.len] at hj2
    obtain ⟨_, k2, k3, _⟩ := N.row j x _ hj (List.getElem?_eq_getElem hj2)
    exact ⟨k2, k3⟩
  have nn : ∀ x, x = a ∨ x ∈ bs → F x = none ∧ B x = none := fun x hx => by
    rcases hx with rfl | hx
    · exact ⟨N.hf, N.hb⟩
    · exact fb x hx
  let F' : Hp := fun x => if x = a ∨ x ∈ bs then H x else F x
  have eF : ∀ x, x = a ∨ x ∈ bs → F' x = H x := fun x hx => if_pos hx
  have eN : ∀ x, ¬ (x = a ∨ x ∈ bs) → F' x = F x := fun x hx => if_neg hx
  have s1 : Same F F' := fun x o e => by
    rw [eN x fun z => by rw [(nn x z).1] at e; cases e]
    exact e
  refine ⟨F', s1, ⟨fun x o e => ?_, re.bh, re.ff.trans s1, fun x o e => ?_, (by rw [List.length_set]; exact re.len), fun i d e _ => ?_, fun i d _ oi => (by rw [ho i] at oi; cases oi), fun i j d e a _ _ oi _ _ _ => by rw [ho i] at oi; cases oi⟩⟩
  · by_cases z : x = a ∨ x ∈ bs
    · rw [eF x z] at e; exact e
    · rw [eN x z] at e; exact re.fh _ _ e
  · rw [eN x fun z => by rw [(nn x z).2] at e; cases e]
    exact re.nf _ _ e
  · by_cases z : r = i
    · subst z
      have hr : r < ρ.length := by
        rw [re.len]
        exact (List.getElem?_eq_some_iff.mp hs).1
      rw [List.getElem?_set_self hr] at e
      cases e
      refine ⟨_, hs, .lst (vs := bs.map V.ref) (by rw [eF a (.inl rfl)]; exact N.hh) (by rw [List.length_map, N.len]; exact Nat.le_trans hl (by decide)) (nl_all N.len fun i b row h1 h2 => ?_)⟩
      obtain ⟨k1, _, _, k4⟩ := N.row i b row h1 h2
      exact ⟨by rw [eF b (.inr (List.mem_of_getElem? h1))]; exact k1, k4⟩
    · rw [List.getElem?_set_ne z] at e
      obtain ⟨v, h1, h2⟩ := re.get i d e (ho i)
      exact ⟨v, h1, h2.mono s1⟩
/-! ### table_of -/
def decL (n : Nat) : List D → Option (List (Nat × Nat × D))
  | [] => some []
  | .tuple [.int p, .int q, w] :: r => if (0 ≤ p ∧ p < n) ∧ 0 ≤ q ∧ q < n then (decL n r).map ((p.toNat, q.toNat, w) :: ·) else none
  | _ => none
theorem decL_some {n : Nat} : ∀ {ds : List D} {its : List (Nat × Nat × D)}, decL n ds = some its → ds = its.map lnT ∧ ∀ t ∈ its, t.1 < n ∧ t.2.1 < n
  | [], its, h => by cases h; exact ⟨rfl, fun _ h => by cases h⟩
  | d :: r, its, h => by
    unfold decL at h
    split at h
    · next e => cases e
    · next p q w r' e =>
      cases e
      split at h
      · next c =>
        cases e2 : decL n r with
        | none => rw [e2] at h; cases h
        | some its' =>
          rw [e2] at h
          cases h
          obtain ⟨h1, h2⟩ := decL_some e2
          refine ⟨?_, fun t ht => ?_⟩
          · rw [List.map_cons, ← h1]
            show _ = PyData.tuple [.int (p.toNat : Int), .int (q.toNat : Int), w] :: r
            rw [Int.toNat_of_nonneg c.1.1, Int.toNat_of_nonneg c.2.1]
          · rcases List.mem_cons.mp ht with rfl | ht
            · exact ⟨by show p.toNat < n; omega, by show q.toNat < n; omega⟩
            · exact h2 t ht
      · cases h
    · cases h
def zerM (n : Nat) : List (List Int) := List.replicate n (List.replicate n 0)
def cutM (M : List (List Int)) : List (List Int) := M.dropLast.map List.dropLast
def G_table_of : List D → Option D
  | [.tuple [.int n, .tuple ls]] => if 1 ≤ n ∧ n ≤ 100 then (decL n.toNat ls).map fun its => matD (cutM ((its.map prT).foldl addE (zerM n.toNat))) else none
  | _ => none
theorem cutD_last (ds : List D) : cutD ds none (some (-1)) = ds.dropLast := by
  have e : HT.sIx ds.length ds.length (some (-1)) = ds.length - 1 := by
    show (if (-1 : Int) < 0 then (-1 + (ds.length : Int)).toNat else min (-1 : Int).toNat ds.length) = _
    rw [if_pos (by decide)]
    omega
  unfold cutD
  have e0 : HT.sIx ds.length 0 none = 0 := rfl
  rw [e, e0, List.drop_zero, Nat.sub_zero, List.dropLast_eq_take]
abbrev fLast (i : Nat) : Ex := xSl (xVar i) none (some (x1 dNeg (xC (.int 1))))
abbrev fTab (r w : Nat) : Ex := xComp (iSeq (fLast r)) [w] (gNm w) xYes (fLast w)
theorem fLast_l {ρ : Rho} {i : Nat} {ds : List D} (h : ρ[i]? = some (some (.list ds))) : fLast i ρ = some (.list ds.dropLast) := by
  unfold fLast xSl
  have e : xVar i ρ = some (.list ds) := by
    unfold xVar
    rw [h]
  rw [e]
  show some (PyData.list (cutD ds none (some (-1)))) = _
  rw [cutD_last]
theorem fTab_run {ρ : Rho} {r w : Nat} {M : List (List Int)} (hrw : r ≠ w) (h : ρ[r]? = some (some (matD M))) (hw : w < ρ.length) (hM : M.length ≤ 100) : fTab r w ρ = some (matD (cutM M)) := by
  unfold fTab xComp
  have e1 : iSeq (fLast r) ρ = some (M.dropLast.map rowD) := by
    unfold iSeq
    rw [fLast_l h, ← List.map_dropLast]
  rw [e1]
  dsimp only [Option.bind_some]
  rw [if_pos (by rw [List.length_map, List.length_dropLast]; exact Nat.le_trans (by omega) (show 100 ≤ LIM by decide))]
  have key : ∀ L : List (List Int), compGo (gNm w) xYes (fLast w) (wipeR ρ [w]) (L.map rowD) = some ((L.map List.dropLast).map rowD) := by
    intro L
    induction L with
    | nil => rfl
    | cons row L ih =>
      rw [List.map_cons, compGo]
      show (match xYes ((wipeR ρ [w]).set w (some (.list (row.map PyData.int)))) with
        | some (.bool true) => (fLast w ((wipeR ρ [w]).set w (some (.list (row.map PyData.int))))).bind fun y => (compGo (gNm w) xYes (fLast w) (wipeR ρ [w]) (L.map rowD)).map (y :: ·)
        | some (.bool false) => compGo (gNm w) xYes (fLast w) (wipeR ρ [w]) (L.map rowD)
        | _ => none) = _
      rw [fLast_l (ds := row.map PyData.int) (by rw [List.getElem?_set_self (by rw [wipeR_len]; exact hw)]), ih]
      show some (PyData.list (row.map PyData.int).dropLast :: (L.map List.dropLast).map rowD) = _
      rw [← List.map_dropLast]
      rfl
  rw [key]
  rfl
/-! ### defs that give a new list, that use up a list -/
def spN (K : PySem.W.Frag) (G : List D → Option D) : Sp := fun vs H Q _ => ∃ F ds d, Same F H ∧ RpAll K F vs ds ∧ G ds = some d ∧ ∀ v F' H', Grow F H F' H' → Kd.nw.rel K F' H H' v d → Q v H'
def hole (H : Hp) (a : Addr) : Hp := fun b => if b = a then none else H b
def spU (K : PySem.W.Frag) (G : List D → Option D) : Sp := fun vs H Q _ => ∃ (F : Hp) (a : Addr) (ws : List V) (ds : List D) (d : D), vs = [.ref a] ∧ H a = some (.lst ws) ∧ F a = none ∧ Same F H ∧ ws.length ≤ LIM ∧ RpAll K F ws ds ∧ G [.list ds] = some d ∧ ∀ v F' H', Grow F (hole H a) F' H' → Rp K F' v d → Q v H'
structure CalS (P : Program) (w : World) (K : PySem.W.Frag) (mg : Str → Option Value) (base : Heap) (k : Nat) (x : Str) (ps : List Str) (sp : Sp) : Prop where
  ex : ∃ (f : Addr) (fd : FuncData), FnOk P w K mg base CX0 k f fd ps sp ∧ mg x = some (.ref f) ∧ PySem.W.keepIn K (.ref f) = true ∧ Binds K fd ps []
section
variable {X : Cx} {own : Nat → Bool}
theorem n_calN {j k : Nat} {ps : List Str} {G : List D → Option D} {x : Str} {p pos : Pos} {e : Expr} {es : List Expr} {g : Rho → Option (List D)} (C : CalS X.prog X.w X.K X.mg X.base j x ps (spN X.K G)) (hr : Room k X.A) (ha : PA X (e :: es) (tA X.K own g)) (hjk : j ≤ k := by omega)
    (hg : Gl X x := by rfl) (hdb : (x == ("__debug__" : Str)) = false := by decide) (he : starEach (e :: es) X.env = (false, eval e X.env) :: starEach es X.env := by rfl) (hpl : (backTo pos (starEach es X.env)).any (·.1) = false := by rfl) :
    PE X (.Call (.Name x p) (e :: es) [] pos) (tN X.K own (xCall G g)) := by
  obtain ⟨f, fd, F, m, kp, b⟩ := C.ex
  refine pe_weak (pe_call F (hr.mono hjk) hg m kp b .nil pass0 ha hdb he hpl) ?_
  rintro σ H Q ⟨B, F0, ρ, F, re, d, e, q⟩
  obtain ⟨ds, e1, e2⟩ := xCall_some e
  refine ⟨B, F0, ρ, F, re, ds, e1, fun vs F1 H1 g1 r1 => ?_⟩
  show spN X.K G (vs ++ []) H1 Q E0
  rw [List.append_nil]
  exact ⟨F1, ds, d, g1.fh, r1, e2, fun v F2 H2 g2 r2 => q v F2 H2 (g1.trans g2) (Kd.early g1.hh r2)⟩
theorem e_calU {j k : Nat} {ps : List Str} {G : List D → Option D} {x : Str} {p pos : Pos} {e : Expr} {f : Ex} (C : CalS X.prog X.w X.K X.mg X.base j x ps (spU X.K G)) (hr : Room k X.A) (ha : PE X e (tN X.K own f)) (hjk : j ≤ k := by omega)
    (hg : Gl X x := by rfl) (hdb : (x == ("__debug__" : Str)) = false := by decide) (he : starEach [e] X.env = (false, eval e X.env) :: starEach [] X.env := by rfl) (hpl : (backTo pos (starEach [] X.env)).any (·.1) = false := by rfl) :
    PE X (.Call (.Name x p) [e] [] pos) (tF X.K own (xCall G (g1 f))) := by
  obtain ⟨fa, fd, F, m, kp, b⟩ := C.ex
  refine pe_weak (pe_call F (hr.mono hjk) hg m kp b .nil pass0 (pa_cons ha pa_nil he) hdb he hpl) ?_
  rintro σ H Q ⟨B, F0, ρ, F, re, d, e, q⟩
  obtain ⟨ds, e1, e2⟩ := xCall_some e
  have e1 : (f ρ).bind (fun d => some [d]) = some ds := e1
  cases e3 : f ρ with
  | none => rw [e3] at e1; cases e1
  | some d1 =>
    rw [e3] at e1
    cases e1
    refine ⟨B, F0, ρ, F, re, d1, e3, ?_⟩
    rintro v F1 H1 g1 ⟨a, ws, es, rfl, rfl, h0, hf, hh, hl, ra⟩
    show spU X.K G ([V.ref a] ++ []) H1 Q E0
    refine ⟨F1, a, ws, es, d, rfl, hh, hf, g1.fh, hl, ra, e2, fun v F2 H2 g2 r2 => q v F2 H2 ⟨fun b o z => ?_, g1.ff.trans g2.ff, g2.fh, fun b o z => ?_⟩ r2⟩
    · refine g2.hh _ _ ?_
      show (if b = a then none else H1 b) = _
      rw [if_neg (fun y => by subst y; rw [h0] at z; cases z)]
      exact g1.hh _ _ z
    · refine (g2.nf b o ?_).trans (g1.nf b o z)
      show (if b = a then none else H1 b) = _
      rw [if_neg (fun y => by subst y; rw [h0] at z; cases z)]
      exact g1.hh _ _ z
end
section
variable {P : Program} {w : World} {K : PySem.W.Frag} {mg : Str → Option Value} {base : Heap}
/-- a def that uses up its one list -/
theorem fn_runU {x qual : Str} {st : Stmt} {f : Addr} {fd : FuncData} {N ps : List Str} {k : Nat} {own : Nat → Bool} {g : Sx} {G : List D → Option D} (F : Fun K x qual st f fd) (S : FnScope N ps (defScope st)) (hp : ps.length = 1) (ho : own 0 = true)
    (hG : ∀ ds d, G ds = some d → runB N.length ps.length g ds = some d)
    (hb : ∀ (cdv : Value) (A : Around) (outer : List Env) (s : Shared) (H : Hp) (E : XK), Room k (A.deeper (envOfC qual (defScope st) s.heap.objs.size f cdv)) →
      PSs (cxOf CX0 P w K mg base N qual (defScope st) f cdv A outer s H E).nox (defBody st) (tS K own g)) : FnOk P w K mg base CX0 (k + 1) f fd ps (spU K G) := by
  refine F.ok S (fun vs H Q E h => ?_) (fun cdv A outer s H vs Q E hr h => ?_)
  · obtain ⟨F1, a, ws, ds, d, rfl, _⟩ := h
    rw [hp]
    rfl
  · obtain ⟨F1, a, ws, ds, d, rfl, hh, hf, fh, hl, r, e, q⟩ := h
    refine ⟨_, hb cdv A outer s H E hr, ?_⟩
    have e := hG _ d e
    have hll := runB_len e
    unfold runB at e
    rw [if_pos hll] at e
    have key : ∀ (i : Nat) (y : D), (([PyData.list ds] : List D).map some ++ List.replicate (N.length - 1) none)[i]? = some (some y) → i = 0 ∧ y = .list ds := fun i y h => by
      cases i with
      | zero => cases h; exact ⟨rfl, rfl⟩
      | succ i =>
        rw [List.getElem?_append_right (by simp), List.getElem?_replicate] at h
        split at h <;> cases h
    have s0 : (L2.start N [V.ref a])[0]? = some (some (.ref a)) := rfl
    have sB : Same (hole H a) H := fun b o z => by
      unfold hole at z
      split at z
      · cases z
      · exact z
    have re : RE K (hole H a) F1 own (([PyData.list ds] : List D).map some ++ List.replicate (N.length - 1) none) (L2.start N [V.ref a]) F1 H := by
      refine ⟨fh, sB, .refl _, fun _ _ _ => rfl, ?_, fun i y h hi => ?_, fun i y h hi => ?_, fun i j y z b h1 h2 _ _ _ _ => ?_⟩
      · unfold L2.start
        simp
      · obtain ⟨rfl, rfl⟩ := key i y h
        rw [ho] at hi
        cases hi
      · obtain ⟨rfl, rfl⟩ := key i y h
        exact ⟨a, s0, hf, if_pos rfl, .lst hh hl r⟩
      · rw [(key i y h1).1, (key j z h2).1]
    cases e1 : g (([PyData.list ds] : List D).map some ++ List.replicate (N.length - ([PyData.list ds] : List D).length) none) with
    | none => rw [e1] at e; cases e
    | some o =>
      rw [e1] at e
      refine ⟨hole H a, F1, _, F1, re, o, e1, ?_⟩
      cases o with
      | nx ρ' =>
        cases e
        exact fun σ' F' H' s1 re' => q .non F' H' re'.gr .non
      | rt d' =>
        cases e
        exact q
      | bk ρ' => cases e
      | ct ρ' => cases e
theorem seq_asg {te : TE} {g : TG} {u : TS} {Dn : Ends} {σ : L2.St} {H : Hp} (h : te σ H fun x H1 => g x σ H1 fun σ H => u Dn σ H) : tSeq (tAsg te g) u Dn σ H := h
theorem seq_one {t u : TS} {Dn : Ends} {σ : L2.St} {H : Hp} (h : t { Dn with nx := fun σ H => u Dn σ H } σ H) : tSeq t u Dn σ H := h
theorem dMulL_zero {m : Nat} (h : m ≤ 100) : dMulL (.list [.int 0]) (.int m) = some (rowD (List.replicate m 0)) := by
  have hc : 0 ≤ (m : Int) ∧ (m : Int) ≤ 1000 ∧ [PyData.int 0].length ≤ 1000 := ⟨by omega, by omega, by decide⟩
  show (if 0 ≤ (m : Int) ∧ (m : Int) ≤ 1000 ∧ [PyData.int 0].length ≤ 1000 then some (PyData.list (List.replicate (m : Int).toNat [PyData.int 0]).flatten) else none) = _
  rw [if_pos hc, Int.toNat_natCast, rowD, List.map_replicate, List.flatten_replicate_singleton]
/-- the def table_of -/
theorem fn_tab {x qual : Str} {st : Stmt} {f : Addr} {fd : FuncData} {N ps : List Str} {k r sp i j l v : Nat} (F : Fun K x qual st f fd) (S : FnScope N ps (defScope st)) (hp : ps.length = 1)
    (hd : (1 ≤ r ∧ r < N.length) ∧ (1 ≤ sp ∧ sp < N.length) ∧ (1 ≤ i ∧ i < N.length) ∧ (1 ≤ j ∧ j < N.length) ∧ (1 ≤ l ∧ l < N.length) ∧ (1 ≤ v ∧ v < N.length)) (hr : r ≠ i ∧ r ≠ j ∧ r ≠ l) (hij : i ≠ j ∧ i ≠ l ∧ j ≠ l) (hrv : r ≠ v)
    (hb : ∀ (cdv : Value) (A : Around) (outer : List Env) (s : Shared) (H : Hp) (E : XK), Room k (A.deeper (envOfC qual (defScope st) s.heap.objs.size f cdv)) →
      PSs (cxOf CX0 P w K mg base N qual (defScope st) f cdv A outer s H E).nox (defBody st)
        (tSeq (tAsg (tLc (tI K (fun _ => false) false (iR1 (x2 dIx (xVar 0) (xC (.int 0))))) (tG K (fun _ => false) (gNm sp) [sp]) (tT K (fun _ => false) xYes) (tN K (fun _ => false) (x2 dMulL (xLst (g1 (xC (.int 0)))) (x2 dIx (xVar 0) (xC (.int 0))))) [sp]) (gName r))
          (tSeq (tFor (tI K (fun _ => false) true (iSeq (x2 dIx (xVar 0) (xC (.int 1))))) (tG K (fun _ => false) (gTu [i, j, l]) [i, j, l]) (tAddE r i j))
            (tRet (tN K (fun _ => false) (fTab r v)))))) : FnOk P w K mg base CX0 (k + 1) f fd ps (spN K G_table_of) := by
  refine F.ok S (fun vs H Q E h => ?_) (fun cdv A outer s H vs Q E hr' h => ?_)
  · obtain ⟨F1, ds, d, fh, rr, e, _⟩ := h
    rw [rr.length, hp]
    unfold G_table_of at e
    split at e
    · rfl
    · cases e
  · obtain ⟨F1, ds, d, fh, rr, e, q⟩ := h
    refine ⟨_, hb cdv A outer s H E hr', ?_⟩
    unfold G_table_of at e
    split at e
    · next n ls =>
      split at e
      · next hn =>
        cases e1 : decL n.toNat ls with
        | none => rw [e1] at e; cases e
        | some its =>
          rw [e1] at e
          cases e
          obtain ⟨m, rfl⟩ : ∃ m : Nat, n = (m : Int) := ⟨n.toNat, by omega⟩
          rw [Int.toNat_natCast] at e1 q
          obtain ⟨rfl, hits⟩ := decL_some e1
          have re0 := start_re (own := fun _ => false) (N := N) fh rr (fun _ _ => rfl)
          have hN1 : 1 ≤ N.length := by omega
          have hx0 : ∀ ρ : Rho, ρ[0]? = some (some (PyData.tuple [.int (m : Int), .tuple (its.map lnT)])) → x2 dIx (xVar 0) (xC (.int 0)) ρ = some (.int m) := fun ρ h => by
            have : xVar 0 ρ = some (PyData.tuple [.int (m : Int), .tuple (its.map lnT)]) := by unfold xVar; rw [h]
            unfold x2
            rw [this]
            rfl
          have hx1 : ∀ ρ : Rho, ρ[0]? = some (some (PyData.tuple [.int (m : Int), .tuple (its.map lnT)])) → x2 dIx (xVar 0) (xC (.int 1)) ρ = some (.tuple (its.map lnT)) := fun ρ h => by
            have : xVar 0 ρ = some (PyData.tuple [.int (m : Int), .tuple (its.map lnT)]) := by unfold xVar; rw [h]
            unfold x2
            rw [this]
            rfl
          have hfr : iR1 (x2 dIx (xVar 0) (xC (.int 0))) (([PyData.tuple [.int (m : Int), .tuple (its.map lnT)]] : List D).map some ++ List.replicate (N.length - ([PyData.tuple [.int (m : Int), .tuple (its.map lnT)]] : List D).length) none) = some (rng 0 m) := by
            unfold iR1
            rw [hx0 _ rfl]
            show (if (m : Int) < 1000000 ∧ -1000000 < (m : Int) then some (rng 0 (m : Int).toNat) else none) = _
            rw [if_pos (by omega), Int.toNat_natCast]
          refine seq_asg ?_
          refine comp_nest (row := List.replicate m 0) re0 (fun _ => rfl) hfr (by rw [rng_len]; omega) (by rw [List.length_replicate]; omega) (fun dd _ => ⟨_, rfl, ?_⟩) fun a bs F2 H2 g2 N2 => ?_
          · have h0 : ((wipeR (([PyData.tuple [.int (m : Int), .tuple (its.map lnT)]] : List D).map some ++ List.replicate (N.length - ([PyData.tuple [.int (m : Int), .tuple (its.map lnT)]] : List D).length) none) [sp]).set sp (some dd))[0]? = some (some (PyData.tuple [.int (m : Int), .tuple (its.map lnT)])) := by
              rw [List.getElem?_set_ne (by omega)]
              show (List.set (([PyData.tuple [.int (m : Int), .tuple (its.map lnT)]] : List D).map some ++ _) sp none)[0]? = _
              rw [List.getElem?_set_ne (by omega)]
              rfl
            have e2 := hx0 _ h0
            show (xLst (g1 (xC (.int 0))) _).bind (fun x => (x2 dIx (xVar 0) (xC (.int 0)) _).bind fun y => dMulL x y) = _
            rw [e2]
            show dMulL (.list [.int 0]) (.int m) = _
            exact dMulL_zero (by omega)
          · have rel := re0.len
            have hrl : r < (L2.start N vs).length := by
              rw [← rel]
              simp
              omega
            have re1 : RE K H F1 (fun _ => false) (([PyData.tuple [.int (m : Int), .tuple (its.map lnT)]] : List D).map some ++ List.replicate (N.length - ([PyData.tuple [.int (m : Int), .tuple (its.map lnT)]] : List D).length) none) ((L2.start N vs).set r (some (.ref a))) F2 H2 := by
              have re1 := re0.grow g2
              refine ⟨re1.fh, re1.bh, re1.ff, re1.nf, by rw [List.length_set]; exact re1.len, fun z y h hz => ?_, fun z y h hz => (nomatch hz), fun z z2 y y2 b _ _ hz => (nomatch hz)⟩
              have hz0 : z = 0 := by
                cases z with
                | zero => rfl
                | succ z =>
                  rw [List.getElem?_append_right (by simp), List.getElem?_replicate] at h
                  split at h <;> cases h
              subst hz0
              rw [List.getElem?_set_ne (by omega)]
              exact re1.get 0 y h hz
            have s1 : ((L2.start N vs).set r (some (V.ref a)))[r]? = some (some (.ref a)) := List.getElem?_set_self hrl
            have sq0 : Sq m (zerM m) := ⟨by unfold zerM; rw [List.length_replicate], fun row hrow => by unfold zerM at hrow; rw [(List.mem_replicate.mp hrow).2, List.length_replicate]⟩
            rw [rng_len] at N2
            refine seq_one ?_
            refine tab_for (N := N.length) re1 (fun _ => rfl) (n := m) (its := its) ?_ hits (by omega) sq0 hr hij ⟨by omega, by omega, by omega⟩ (by simp; omega) s1 N2 fun ρ' σ' F' H' re2 s2 hN' hs' NL' => ?_
            · unfold iSeq
              rw [hx1 _ rfl]
            · have sqE : ∀ (L : List (Nat × Nat × D)) (M : List (List Int)), (∀ t ∈ L, t.1 < m ∧ t.2.1 < m) → Sq m M → Sq m ((L.map prT).foldl addE M) := by
                intro L
                induction L with
                | nil => intro M _ h; exact h
                | cons t L ih =>
                  intro M h1 h2
                  exact ih _ (fun t ht => h1 t (List.mem_cons_of_mem _ ht)) (h2.addE (h1 t List.mem_cons_self))
              have sqF := sqE its _ hits sq0
              have hml : ((its.map prT).foldl addE (zerM m)).length ≤ 100 := by rw [sqF.1]; omega
              obtain ⟨F3, s3, re3⟩ := nl_froz re2 (fun _ => rfl) hs' hml NL'
              refine ⟨H, F1, _, F3, re3, _, fTab_run hrv (List.getElem?_set_self (by rw [hN']; omega)) (by rw [List.length_set, hN']; omega) hml, fun y F4 H4 g4 r4 => ?_⟩
              exact q y F4 H4 (re3.gr.trans g4) (Kd.early re3.bh r4)
      · cases e
    · cases e
end
section
variable {X : Cx} {own : Nat → Bool} {elt tg l : Expr} {ifs : List Expr} {scope : Scope} {ow : List (Str × Nat)} {fi : It1} {fz : Bool} {gt : Tg} {ft : Ex} {te : TE} {pos spos : Pos}
/-- y = [..], whatever the items are -/
theorem ps_setL {vs : List Nat} {i : Nat} {y : Str} {py : Pos} (hc : X.calm = true) (hN : X.N.Nodup) (hi : PI X tg l (tI X.K own fz fi)) (ok : BlkOk X.N X.env.scope scope ow) (hvs : ow.map (·.2) = vs)
    (hg : ∀ (s : Shared) (H : Hp) (C : Addr) (cl : List (Str × Addr)) (fp : List Addr), PG (X.blk s H scope (compEnvC scope cl C X.env) fp) tg (tG X.K own gt vs))
    (ht : ∀ (s : Shared) (H : Hp) (C : Addr) (cl : List (Str × Addr)) (fp : List Addr), PTs (X.blk s H scope (compEnvC scope cl C X.env) fp) ifs (tT X.K own ft))
    (he : ∀ (s : Shared) (H : Hp) (C : Addr) (cl : List (Str × Addr)) (fp : List Addr), PE (X.blk s H scope (compEnvC scope cl C X.env) fp) elt te)
    (hy : X.N[i]? = some y := by rfl) (hyl : X.env.scope.names.lookup y = some .local := by rfl) (hl : (py.line == pos.line) = true := by rfl) (hk : X.env.scope.kind = .function := by rfl)
    (ha : (scope.names.any fun (n, k) => n == y && (k == .local || k == .cell)) = false := by rfl) (hl2 : spos.line = py.line := by rfl)
    (hs : ∀ x, foldedSetIterable l X.env x = pure x := by intro _; rfl) :
    PS X (.Assign [.Name y py] (.ListComp elt [⟨tg, l, ifs, 0⟩] scope pos) spos) (tAsg (tLc (tI X.K own fz fi) (tG X.K own gt vs) (tT X.K own ft) te vs) (gName i)) := by
  subst hvs
  exact ps_setLc (spos := spos) hc hN hy hyl (sw_true (l := spos.line) hk hyl hl ha) hi ok hg ht he hs
theorem ps_forT {body : List Stmt} {g : TG} {tb : TS} {wi : TI} (hc : X.calm = true) (hi : PI X tg l wi) (hg : PG X tg g) (hb : PSs X body tb) (hp : PassesOwn (model X.prog X.w) X.A X.env X.xe := by exact PassesOwn.never)
    (hs : ∀ x, foldedSetIterable l X.env x = pure x := by intro _; rfl) : PS X (.For tg l body [] pos) (tFor wi g tb) := ps_for hp hc hi hg hb hs
end
end Tw

set_option Elab.async false
set_option linter.all false
set_option maxRecDepth 100000
set_option maxHeartbeats 4000000
namespace Tw
open PySem PySem.Spec PyProof.Rows L2
/-! ### xs.remove(x), x one of the items -/
/-- x.remove(e), x one's own list -/
def sRem (i : Nat) (f : Ex) : Sx := fun ρ => match ρ[i]? with
  | some (some (.list ds)) => (f ρ).bind fun d => if SeqAt.shaped (.list ds) = true ∧ SeqAt.shaped d = true then (ds.findIdx? fun z => PyData.eqv z d).map fun j => .nx (ρ.set i (some (.list (ds.eraseIdx j)))) else none
  | _ => none
theorem RpAll.eraseIdx {K : PySem.W.Frag} {F : Hp} : ∀ {vs : List V} {ds : List D} (j : Nat), RpAll K F vs ds → RpAll K F (vs.eraseIdx j) (ds.eraseIdx j)
  | _, _, _, .nil => by simp; exact .nil
  | _, _, 0, .cons _ t => t
  | _, _, j + 1, .cons r t => .cons r (RpAll.eraseIdx j t)
def rRemD (K : PySem.W.Frag) : V → List V → Hp → VK → Prop := fun x xs H Q => ∃ (a : Addr) (y : V) (d : PyData) (vs : List V) (ds : List PyData) (j : Nat), x = .ref a ∧ xs = [y] ∧ H a = some (.lst vs) ∧ DpAll K H vs ds ∧ Dp K H y d ∧
  SeqAt.shaped (.list ds) = true ∧ SeqAt.shaped d = true ∧ SeqAt.dataPlace ds d = some j ∧ Q .non (upd H a (.lst (vs.eraseIdx j)))
section
variable {X : Cx}
theorem mt_removeD (hu : X.A.units + 65 < cLine) : MtM X "list.remove" (rRemD X.K) := by
  intro pins s σ H x xs v us Q I rx rxs h
  obtain ⟨a, y, d, vs, ds, j, rfl, rfl, hH, ha, hy, sl, sd, hj, q⟩ := h
  cases rx
  obtain ⟨u, rfl, ry⟩ := rxs.one
  obtain ⟨bs, r1⟩ := Dp.reads I d y u hy ry
  obtain ⟨z, its, n, r, hl, e⟩ := I.lstM hH
  obtain ⟨as, h4⟩ := Dp.readsAll I ds vs its ha r
  have hxs := SeqAt.canLay_of_shaped sl
  have hroom : X.A.units + 1 + min (PyData.depthAll ds) d.depth < cLine := room_in_shaped sd hu
  refine SeqAt.remove_list_data (vs := its.toArray) (j := j) ⟨_, e, rfl, n, rfl⟩ (show ReadsAll s.heap its.toArray.toList ds as from h4) r1 (PyData.plainAll_of_canLay0 ds hxs) (PyData.plain_of_canLay0 d (SeqAt.canLay_of_shaped sd)) hroom hj (by rw [List.size_toArray]; omega) ?_
  have rr := r.eraseIdx j
  refine ⟨.non, _, I.lset (its' := its.eraseIdx j) (t' := s.toks) hH e ?_ rr ?_, rfl, q⟩
  · show its.toArray.eraseIdxIfInBounds j = (its.eraseIdx j).toArray
    rw [List.eraseIdxIfInBounds_toArray]
  · have z2 := len_erase vs j
    omega
end
section
variable {X : Cx} {own : Nat → Bool} {e : Expr} {f : Ex} {pos : Pos} {n : Nat}
theorem s_rem {i : Nat} {x : Str} {p2 ap cp : Pos} (hr : Room n X.A) (he : PE X e (tB X.K own f)) (ho : own i = true := by rfl) (hN : X.N[i]? = some x := by rfl) (hv : Vis X.env.scope x := by first | exact Or.inl rfl | exact Or.inr (Or.inl rfl) | exact Or.inr (Or.inr rfl))
    (hd : (x == ("__debug__" : Str)) = false := by decide) (hcd : (x == ("__classdict__" : Str)) = false := by decide)
    (a1 : attributeBase (.Name x p2) "remove" X.env (eval (.Name x p2) X.env) = eval (.Name x p2) X.env := by rfl)
    (a2 : ((((backTo cp (starEach [e] X.env)).all fun x => !x.fst) && (backToKw cp (keywordEach [] X.env)).all fun x => x.fst.isSome) && decide (([e].length + ([] : List Keyword).length + if ([] : List Keyword).isEmpty = true then 0 else 1) < 30)) = true := by rfl)
    (a3 : (ap.endLine == cp.line) = true := by rfl) (a4 : starEach [e] X.env = (false, eval e X.env) :: starEach [] X.env := by rfl) (a5 : ((backTo cp (starEach [] X.env)).any fun x => x.fst) = false := by rfl) :
    PS X (.Expr (.Call (.Attribute (.Name x p2) "remove" ap) [e] [] cp) pos) (tS X.K own (sRem i f)) := by
  refine ps_weak (ps_expr (pe_bm PySem.F.plainAttrs_list PySem.F.slot_list_remove PySem.F.type_list_remove (mt_removeD (u65 hr)) (pe_var (i := i) hN hv hd hcd) (pa_cons he pa_nil a4) a1 a2 a3 a4 a5)) ?_
  rintro Dn σ H ⟨B, F0, ρ, F, re, o, e, q⟩
  unfold sRem at e
  split at e
  · next ds e1 =>
    cases e2 : f ρ with
    | none => rw [e2] at e; cases e
    | some d =>
      rw [e2] at e
      dsimp only [Option.bind_some] at e
      split at e
      case isFalse => cases e
      next hsh =>
      cases e4 : ds.findIdx? (fun z => PyData.eqv z d) with
      | none => rw [e4] at e; cases e
      | some j =>
        rw [e4] at e
        cases e
        obtain ⟨a, vs, ds', h1, h2, h3, h4, h5, h6, h7⟩ := re.mineL e1 ho
        cases h1
        refine ⟨.ref a, h2, .inl ⟨rfl, vs, .of h3⟩, B, F0, ρ, F, re, d, e2, fun v F1 H1 g1 b1 => ?_⟩
        have d1 : DpAll X.K H1 vs ds := (h7.mono g1.ff).dp g1.fh (by simpa only [PyData.canLay0] using SeqAt.canLay_of_shaped hsh.1)
        have d2 := b1.dp g1.fh (SeqAt.canLay_of_shaped hsh.2)
        refine ⟨a, v, d, vs, ds, j, rfl, rfl, g1.hh _ _ h3, d1, d2, hsh.1, hsh.2, e4, ?_⟩
        refine q σ F1 _ g1.ff ((re.grow g1).change ho e1 h2 ?_ ((h7.mono g1.ff).eraseIdx j))
        exact Nat.le_trans (List.eraseIdx_sublist ..).length_le h6
  · cases e
end
end Tw

set_option Elab.async false
set_option linter.all false
set_option maxRecDepth 100000
set_option maxHeartbeats 4000000
namespace Tw
open PySem PySem.Spec PyProof.Rows L2
/-! ### dicts of ints -/
def kvOf : List (D × D) → Option (List (Int × Int))
  | [] => some []
  | (.int i, .int j) :: t => (kvOf t).map ((i, j) :: ·)
  | _ => none
def dkOf : D → Option (List (Int × Int))
  | .dict ((.int i, .int j) :: t) => (kvOf t).map ((i, j) :: ·)
  | _ => none
abbrev dkD (kv : List (Int × Int)) : D := .dict (kv.map kvD)
def kvGet (kv : List (Int × Int)) (k : Int) : Option Int := (kv.find? fun p => decide (p.1 = k)).map (·.2)
def kvPut (kv : List (Int × Int)) (k v : Int) : List (Int × Int) := if (kv.any fun p => decide (p.1 = k)) = true then kv.map fun p => if p.1 = k then (p.1, v) else p else kv ++ [(k, v)]
def dGet (d x : D) : Option D := match x with
  | .int k => (dkOf d).bind fun kv => (kvGet kv k).map PyData.int
  | _ => none
def dInK (neg : Bool) (x d : D) : Option D := match x with
  | .int k => (dkOf d).map fun kv => .bool (xor neg (kvGet kv k).isSome)
  | _ => none
/-- x = {k: v} -/
def sDNew (i : Nat) (fk fv : Ex) : Sx := fun ρ => match fk ρ, fv ρ with
  | some (.int k), some (.int v) => some (.nx (ρ.set i (some (dkD [(k, v)]))))
  | _, _ => none
/-- x[k] = v -/
def sDPut (i : Nat) (fk f : Ex) : Sx := fun ρ => match ρ[i]?, fk ρ, f ρ with
  | some (some d), some (.int k), some (.int v) => (dkOf d).bind fun kv => if kv.length < LIM then some (.nx (ρ.set i (some (dkD (kvPut kv k v))))) else none
  | _, _, _ => none
/-- for k in x -/
def iKs (f : Ex) : It1 := fun ρ => ((f ρ).bind dkOf).map fun kv => kv.map fun p => PyData.int p.1
theorem kvOf_some : ∀ {t : List (D × D)} {r : List (Int × Int)}, kvOf t = some r → t = r.map kvD
  | [], r, h => by cases h; rfl
  | (a, b) :: t, r, h => by
    unfold kvOf at h
    split at h
    · next e => cases e
    · next i j t' e =>
      cases e
      cases e2 : kvOf t with
      | none => rw [e2] at h; cases h
      | some r' =>
        rw [e2] at h
        cases h
        rw [kvOf_some e2]
        rfl
    · cases h
theorem kvOf_map : ∀ r : List (Int × Int), kvOf (r.map kvD) = some r
  | [] => rfl
  | p :: r => by
    show (kvOf (r.map kvD)).map ((p.1, p.2) :: ·) = _
    rw [kvOf_map r]
    rfl
theorem dkOf_dkD {p : Int × Int} {r : List (Int × Int)} : dkOf (dkD (p :: r)) = some (p :: r) := by
  show (kvOf (r.map kvD)).map ((p.1, p.2) :: ·) = _
  rw [kvOf_map]
  rfl
theorem dkOf_some {d : D} {kv : List (Int × Int)} (h : dkOf d = some kv) : ∃ i j t r, d = .dict ((.int i, .int j) :: t) ∧ t = r.map kvD ∧ kv = (i, j) :: r := by
  unfold dkOf at h
  split at h
  · next i j t =>
    cases e : kvOf t with
    | none => rw [e] at h; cases h
    | some r =>
      rw [e] at h
      cases h
      exact ⟨i, j, t, r, rfl, kvOf_some e, rfl⟩
  · cases h
theorem inl_eq {a k : Int} : (decide ((Sum.inl a : Key) = Sum.inl k)) = decide (a = k) := decide_eq_decide.mpr ⟨fun h => Sum.inl.inj h, fun h => by rw [h]⟩
theorem valV_kv (k : Int) : ∀ kv : List (Int × Int), valV (kv.map kvV) (.inl k) = (kvGet kv k).map V.int
  | [] => rfl
  | p :: r => by
    have ih := valV_kv k r
    unfold kvGet
    by_cases h : p.1 = k
    · rw [List.map_cons, valV_pos (show (kvV p).1 = .inl k by rw [← h]), List.find?_cons, decide_eq_true h]
      rfl
    · rw [List.map_cons, valV_neg (show ¬ (kvV p).1 = .inl k from fun z => h (Sum.inl.inj z)), List.find?_cons, decide_eq_false h, ih]
      rfl
theorem any_kv (k : Int) (kv : List (Int × Int)) : ((kv.map kvV).any fun p => decide (p.1 = (.inl k : Key))) = kv.any fun p => decide (p.1 = k) := by
  rw [List.any_map]
  congr 1
  funext p
  exact inl_eq
theorem putK_kv (kv : List (Int × Int)) (k v : Int) : putK (kv.map kvV) (.inl k) (.int v) = (kvPut kv k v).map kvV := by
  unfold putK kvPut
  rw [any_kv]
  by_cases h : (kv.any fun p => decide (p.1 = k)) = true
  · rw [if_pos h, if_pos h, List.map_map, List.map_map]
    refine List.map_congr_left fun p _ => ?_
    show (if (Sum.inl p.1 : Key) = .inl k then ((Sum.inl p.1 : Key), V.int v) else ((Sum.inl p.1 : Key), V.int p.2)) = kvV (if p.1 = k then (p.1, v) else p)
    by_cases e : p.1 = k
    · rw [if_pos e, if_pos (by rw [e])]
    · rw [if_neg e, if_neg (fun z => e (Sum.inl.inj z))]
  · rw [if_neg h, if_neg h, List.map_append]
    rfl
theorem kvPut_head {p : Int × Int} {r : List (Int × Int)} {k v : Int} : ∃ q s, kvPut (p :: r) k v = q :: s ∧ s.length ≤ r.length + 1 := by
  unfold kvPut
  split
  · exact ⟨_, _, rfl, by rw [List.length_map]; omega⟩
  · exact ⟨p, r ++ [(k, v)], rfl, by rw [List.length_append]; exact Nat.le_refl _⟩
section
variable {X : Cx} {own : Nat → Bool} {a b e : Expr} {fa fb f fk fv : Ex} {pos p2 : Pos} {n : Nat}
theorem u1 {n : Nat} {A : Around} (hr : Room n A) : A.units + 1 < cLine := by have := hr.un; omega
theorem dGet_some {x y d : D} (h : dGet x y = some d) : ∃ k kv v, y = .int k ∧ dkOf x = some kv ∧ kvGet kv k = some v ∧ d = .int v := by
  unfold dGet at h
  split at h
  · next k =>
    cases e1 : dkOf x with
    | none => rw [e1] at h; cases h
    | some kv =>
      rw [e1] at h
      cases e2 : kvGet kv k with
      | none => dsimp only [Option.bind_some] at h; rw [e2] at h; cases h
      | some v =>
        dsimp only [Option.bind_some] at h
        rw [e2] at h
        cases h
        exact ⟨k, kv, v, rfl, rfl, e2, rfl⟩
  · cases h
/-- d[k] -/
theorem e_dget (hr : Room n X.A) (ha : PE X a (tB X.K own fa)) (hb : PE X b (tB X.K own fb)) (hs : NoSl b := by exact fun _ _ => rfl) : PE X (.Subscript a b pos) (tF X.K own (x2 dGet fa fb)) := by
  refine pe_weak (pe_dget (u1 hr) ha hb hs) ?_
  rintro σ H Q ⟨B, F0, ρ, F, re, d, e, q⟩
  obtain ⟨x, y, e1, e2, e3⟩ := x2_some e
  obtain ⟨k, kv, v, rfl, e4, e5, rfl⟩ := dGet_some e3
  obtain ⟨i, j, t, r, rfl, rfl, rfl⟩ := dkOf_some e4
  refine ⟨B, F0, ρ, F, re, _, e1, fun vx F1 H1 g1 b1 => ⟨B, F0, ρ, F1, re.grow g1, _, e2, fun vy F2 H2 g2 b2 => ?_⟩⟩
  obtain ⟨ad, r', rfl, hrd, _, hr'⟩ := (b1.grow g2).dic g2.fh
  have er : r' = r := by
    have h1 := kvOf_map r
    rw [hr', kvOf_map] at h1
    exact Option.some.inj h1
  subst er
  rw [b2.int]
  refine ⟨ad, .int v, rfl, .inl ⟨_, .inl k, hrd, rfl, ?_⟩, q _ F2 H2 (g1.trans g2) (.int v)⟩
  rw [valV_kv, e5]
  rfl
theorem dInK_some {neg : Bool} {x y d : D} (h : dInK neg x y = some d) : ∃ k kv, x = .int k ∧ dkOf y = some kv ∧ d = .bool (xor neg (kvGet kv k).isSome) := by
  unfold dInK at h
  split at h
  · next k =>
    cases e1 : dkOf y with
    | none => rw [e1] at h; cases h
    | some kv =>
      rw [e1] at h
      cases h
      exact ⟨k, kv, rfl, rfl, rfl⟩
  · cases h
theorem inK_read {neg : Bool} {σ : L2.St} {H : Hp} {Q : VK} (h : tF X.K own (x2 (dInK neg) fa fb) σ H Q) :
    tB X.K own fa σ H fun y H1 => tB X.K own fb σ H1 fun x H2 => ∃ (ad : Addr) (o : Option V), x = .ref ad ∧ DGet H2 ad y o ∧ Q (.bl (xor neg o.isSome)) H2 := by
  obtain ⟨B, F0, ρ, F, re, d, e, q⟩ := h
  obtain ⟨x, y, e1, e2, e3⟩ := x2_some e
  obtain ⟨k, kv, rfl, e4, rfl⟩ := dInK_some e3
  obtain ⟨i, j, t, r, rfl, rfl, rfl⟩ := dkOf_some e4
  refine ⟨B, F0, ρ, F, re, _, e1, fun vx F1 H1 g1 b1 => ⟨B, F0, ρ, F1, re.grow g1, _, e2, fun vy F2 H2 g2 b2 => ?_⟩⟩
  obtain ⟨ad, r', rfl, hrd, _, hr'⟩ := b2.dic g2.fh
  have er : r' = r := by
    have h1 := kvOf_map r
    rw [hr', kvOf_map] at h1
    exact Option.some.inj h1
  subst er
  rw [b1.int]
  refine ⟨ad, _, rfl, .inl ⟨_, .inl k, hrd, rfl, rfl⟩, ?_⟩
  rw [valV_kv, Option.isSome_map]
  exact q _ F2 H2 (g1.trans g2) (.bl _)
theorem e_inK (hr : Room n X.A) (ha : PE X a (tB X.K own fa)) (hb : PE X b (tB X.K own fb)) (hm : behindInMarks .In b = false := by rfl) : PE X (.Compare a [.In] [b] pos) (tF X.K own (x2 (dInK false) fa fb)) := by
  refine pe_weak (pe_cmp (pc_din (u1 hr) ha hb) hm) fun σ H Q h => ?_
  have := inK_read h
  simp only [Bool.false_xor] at this
  exact this
theorem e_notInK (hr : Room n X.A) (ha : PE X a (tB X.K own fa)) (hb : PE X b (tB X.K own fb)) (hm : behindInMarks .NotIn b = false := by rfl) : PE X (.Compare a [.NotIn] [b] pos) (tF X.K own (x2 (dInK true) fa fb)) := by
  refine pe_weak (pe_cmp (pc_dnotin (u1 hr) ha hb) hm) fun σ H Q h => ?_
  have := inK_read h
  simp only [Bool.true_xor] at this
  exact this
theorem c_inK (hr : Room n X.A) (ha : PE X a (tB X.K own fa)) (hb : PE X b (tB X.K own fb)) (hm : behindInMarks .In b = false := by rfl) : PT X (.Compare a [.In] [b] pos) (tT X.K own (x2 (dInK false) fa fb)) := by
  refine pt_weak (pt_cmp (pc_din (u1 hr) ha hb) hm) fun σ H Q h => ?_
  have := test_of (fun σ H Q h => inK_read h) h
  simp only [Bool.false_xor] at this
  exact this
theorem c_notInK (hr : Room n X.A) (ha : PE X a (tB X.K own fa)) (hb : PE X b (tB X.K own fb)) (hm : behindInMarks .NotIn b = false := by rfl) : PT X (.Compare a [.NotIn] [b] pos) (tT X.K own (x2 (dInK true) fa fb)) := by
  refine pt_weak (pt_cmp (pc_dnotin (u1 hr) ha hb) hm) fun σ H Q h => ?_
  have := test_of (fun σ H Q h => inK_read h) h
  simp only [Bool.true_xor] at this
  exact this
/-- x = {k: v} -/
theorem s_dnew {i : Nat} {x : Str} {k v : Expr} {px pd : Pos} (hN : X.N.Nodup) (hk : PE X k (tF X.K own fk)) (hv : PE X v (tF X.K own fv)) (ho : own i = true := by rfl) (hi : X.N[i]? = some x := by rfl) (hx : Loc X.env.scope x := by first | exact .inl rfl | exact .inr rfl)
    (hs : swapsWith (.Dict [some k] [v] pd) (some (.Name x px)) pos.line X.env = pure false := by rfl)
    (hf : X.fn x = true ∨ X.env.scope.names.lookup x = some .local := by first | exact .inl rfl | exact .inr rfl | assumption) : PS X (.Assign [.Name x px] (.Dict [some k] [v] pd) pos) (tS X.K own (sDNew i fk fv)) := by
  refine ps_weak (ps_set hN hi hx (pe_disp (pps_cons hk hv pps_nil) rfl rfl (by simp) (by simp)) hs hf) ?_
  rintro Dn σ H ⟨B, F0, ρ, F, re, o, e, q⟩
  unfold sDNew at e
  split at e
  · next kk vv e1 e2 =>
    cases e
    intro p hp
    have hF : F p = none := re.fh.free hp
    have hB : B p = none := re.bh.free hp
    have re1 : RE X.K B F0 own ρ σ F (upd H p (.dK [])) := re.aside hF hB (re.other hp)
    refine ⟨B, F0, ρ, F, re1, _, e1, fun a1 F1 H1 g1 r1 => ⟨B, F0, ρ, F1, re1.grow g1, _, e2, fun a2 F2 H2 g2 r2 => ?_⟩⟩
    have r1 : Rp X.K F1 a1 (.int kk) := r1
    have r2 : Rp X.K F2 a2 (.int vv) := r2
    cases r1
    cases r2
    have g := g1.trans g2
    have hHp : H2 p = some (.dK []) := g.hh _ _ upd_same
    have hF2 : F2 p = none := (g.nf p _ upd_same).trans hF
    refine ⟨hHp, [(.inl kk, .int vv)], rfl, by rw [List.length_singleton]; decide, ?_⟩
    have em : mergeK [] [((.inl kk : Key), V.int vv)] = [(kk, vv)].map kvV := rfl
    rw [em]
    have gg : Grow F H F2 (upd H2 p (.dK ([(kk, vv)].map kvV))) := ⟨fun b o z => by
      have hb : b ≠ p := ne_of_none z hp
      rw [upd_ne hb]
      exact g.hh _ _ (by rw [upd_ne hb]; exact z), g.ff, fun b o z => by
      rw [upd_ne (ne_of_none z hF2)]
      exact g.fh _ _ z, fun b o z => g.nf b o (by rw [upd_ne (ne_of_none z hp)]; exact z)⟩
    exact q _ F2 _ gg.ff (re.takeO gg ho hp hF2 (.dic (r := []) upd_same (by decide) rfl))
  · cases e
/-- x[k] = v, x one's own dict -/
theorem s_dput {i : Nat} {x : Str} {k v : Expr} {px ps : Pos} (hr : Room n X.A) (hv : PE X v (tF X.K own f)) (hk : PE X k (tF X.K own fk)) (ho : own i = true := by rfl) (hN : X.N[i]? = some x := by rfl) (hvs : Vis X.env.scope x := by first | exact Or.inl rfl | exact Or.inr (Or.inl rfl) | exact Or.inr (Or.inr rfl))
    (hd : (x == ("__debug__" : Str)) = false := by decide) (hcd : (x == ("__classdict__" : Str)) = false := by decide)
    (hs : swapsWith v (some (.Subscript (.Name x px) k ps)) pos.line X.env = pure false := by rfl) : PS X (.Assign [.Subscript (.Name x px) k ps] v pos) (tS X.K own (sDPut i fk f)) := by
  refine ps_weak (ps_dput (u1 hr) (pe_var (i := i) hN hvs hd hcd) hk hv hs) ?_
  rintro Dn σ H ⟨B, F0, ρ, F, re, o, e, q⟩
  unfold sDPut at e
  split at e
  · next d kk vv e1 e2 e3 =>
    cases e4 : dkOf d with
    | none => rw [e4] at e; cases e
    | some kv =>
      rw [e4] at e
      dsimp only [Option.bind_some] at e
      split at e <;> cases e
      rename_i hl
      obtain ⟨i', j', t, r, rfl, rfl, rfl⟩ := dkOf_some e4
      refine ⟨B, F0, ρ, F, re, _, e3, fun a1 F1 H1 g1 r1 => ?_⟩
      have r1 : Rp X.K F1 a1 (.int vv) := r1
      cases r1
      obtain ⟨ad, h2, h4, h5, hld⟩ := (re.grow g1).mine i _ e1 ho
      refine ⟨_, h2, B, F0, ρ, F1, re.grow g1, _, e2, fun a2 F2 H2 g2 r2 => ?_⟩
      have r2 : Rp X.K F2 a2 (.int kk) := r2
      cases r2
      obtain ⟨ad', h2', h4', h5', hld'⟩ := ((re.grow g1).grow g2).mine i _ e1 ho
      rw [h2] at h2'
      cases h2'
      have hz : ∃ r', H2 ad = some (.dK (((i', j') :: r').map kvV)) ∧ r' = r := by
        generalize ed : (PyData.dict ((PyData.int i', PyData.int j') :: r.map kvD)) = dd at hld'
        cases hld' with
        | lst _ _ _ => cases ed
        | @dic i2 j2 r2 t2 k1 k2 k3 =>
          cases ed
          have h1 := kvOf_map r
          rw [k3, kvOf_map] at h1
          exact ⟨r2, k1, Option.some.inj h1⟩
      obtain ⟨r', hH2, rfl⟩ := hz
      refine ⟨ad, _, rfl, DPut.k (k := .inl kk) (v := .int vv) hH2 ?_, ?_⟩
      · rw [List.length_map]
        exact Nat.lt_trans hl lim_lt
      · have ep : putK (((i', j') :: r').map kvV) (.inl kk) (.int vv) = (kvPut ((i', j') :: r') kk vv).map kvV := putK_kv _ _ _
        rw [ep]
        obtain ⟨q0, s0, eq0, hs0⟩ := kvPut_head (p := (i', j')) (r := r') (k := kk) (v := vv)
        rw [eq0] at q ⊢
        refine q σ F2 _ (g1.trans g2).ff (((re.grow g1).grow g2).changeO ho e1 h2 (.dic (r := s0) upd_same ?_ rfl))
        have hl : r'.length + 1 < LIM := hl
        omega
  · cases e
/-- for k in d, d held for good -/
theorem i_keys {tg l : Expr} {fz : Bool} (hl : PE X l (tF X.K own f)) : PI X tg l (tI X.K own fz (iKs f)) := by
  refine pi_weak (pi_keys hl) ?_
  rintro σ H R ⟨B, F0, ρ, F, re, ds, e, q⟩
  unfold iKs at e
  cases e1 : f ρ with
  | none => rw [e1] at e; cases e
  | some d =>
    rw [e1] at e
    dsimp only [Option.bind_some] at e
    cases e2 : dkOf d with
    | none => rw [e2] at e; cases e
    | some kv =>
      rw [e2] at e
      cases e
      obtain ⟨i', j', t, r, rfl, rfl, rfl⟩ := dkOf_some e2
      refine ⟨B, F0, ρ, F, re, _, e1, fun v F1 H1 g1 r1 => ?_⟩
      have r1 : Rp X.K F1 v (.dict ((.int i', .int j') :: r.map kvD)) := r1
      generalize ed : (PyData.dict ((PyData.int i', PyData.int j') :: r.map kvD)) = dd at r1
      cases r1 with
      | @dk ad od i2 j2 r2 t2 k1 k2 k3 =>
        cases ed
        have er : r2 = r := by
          have h1 := kvOf_map r
          rw [k3, kvOf_map] at h1
          exact Option.some.inj h1
        subst er
        refine ⟨ad, od, rfl, .inl ⟨_, g1.fh _ _ k1, q _ F1 H1 g1 ?_⟩⟩
        intro F2 H2 s1 s2 _
        have kd := s2 _ _ (s1 _ _ k1)
        refine ⟨fun c hc => ⟨kd, by simpa using hc⟩, ⟨kd, by simp⟩, fun c y H' hc yl => ?_⟩
        obtain ⟨rfl, kk, vv, h1, rfl⟩ := yl
        rw [List.getElem?_map] at h1
        cases h2 : ((i', j') :: r2)[c]? with
        | none => rw [h2] at h1; cases h1
        | some p =>
          rw [h2] at h1
          cases h1
          exact ⟨F2, .int p.1, .refl s2, by rw [List.getElem?_map, h2]; rfl, .int _⟩
      | _ => cases ed
/-! x in t, t a tuple of any data -/
def rInT (K : PySem.W.Frag) : R2 := fun x y H Q => ∃ d ds, Dp K H x d ∧ Dp K H y (.tuple ds) ∧ SeqAt.shaped d = true ∧ SeqAt.shaped (.tuple ds) = true ∧ Q (.bl (ds.any fun z => PyData.eqv z d)) H
theorem op_inT (hu : X.A.units + 65 < cLine) : OpR X (compareOp .In) (rInT X.K) := by
  intro pins s σ H x y v u Q I rx ry h
  obtain ⟨d, ds, hd, he, sd, se, q⟩ := h
  obtain ⟨as, r1⟩ := Dp.reads I d x v hd rx
  obtain ⟨bs, r2⟩ := Dp.reads I (.tuple ds) y u he ry
  exact SeqAt.in_tuple_reads r2 r1 (SeqAt.canLay_of_shaped se) (SeqAt.canLay_of_shaped sd) (room_in_shaped sd hu) ⟨.bl _, H, I, rfl, q⟩
def dInT (x : D) : D → Option D
  | .tuple ds => if SeqAt.shaped x = true ∧ SeqAt.shaped (.tuple ds) = true then some (.bool (ds.any fun z => PyData.eqv z x)) else none
  | _ => none
theorem ok_inT : OpOk .fz X.K (rInT X.K) dInT := by
  intro F H x y dx dy d Q fh bx byy e q
  cases dy <;> simp only [dInT] at e <;> try cases e
  next ds =>
  split at e <;> cases e
  rename_i hc
  exact ⟨dx, ds, bx.dp fh (SeqAt.canLay_of_shaped hc.1), byy.dp fh (SeqAt.canLay_of_shaped hc.2), hc.1, hc.2, q _ F H (.refl fh) (.bl _)⟩
theorem e_inT (hr : Room n X.A) (ha : PE X a (tB X.K own fa)) (hb : PE X b (tB X.K own fb)) (hm : behindInMarks .In b = false := by rfl) : PE X (.Compare a [.In] [b] pos) (tF X.K own (x2 dInT fa fb)) := e_cmp (op_inT (u65 hr)) ok_inT ha hb hm
theorem c_inT (hr : Room n X.A) (ha : PE X a (tB X.K own fa)) (hb : PE X b (tB X.K own fb)) (hm : behindInMarks .In b = false := by rfl) : PT X (.Compare a [.In] [b] pos) (tT X.K own (x2 dInT fa fb)) := c_cmp (op_inT (u65 hr)) ok_inT ha hb hm
end
end Tw

set_option Elab.async false
set_option linter.all false
set_option maxRecDepth 100000
set_option maxHeartbeats 4000000
namespace Tw
open PySem PySem.Spec PyProof.Rows L2
/-! ### an exception out of a comprehension's block -/
/-- what is wished behind an exception, the slots aside -/
abbrev WB := Value → Option Addr → Hp → Prop
/-- u came out of a call in the block Y -/
def offX (Y : Cx) (Wi : WB) (u : Value) (s' : Shared) : Prop :=
  ∃ (qs : List (Addr × Obj)) (τ : L2.St) (J : Hp) (z : Shared) (Eo : XK), Inv Y qs τ J z ∧ L2.CX Y.prog Y.w Y.stack J z Eo u s' ∧ ∀ c d J', Eo c d J' → Wi c d J'
theorem pass_off {Y : Cx} {Wi : WB} {τ : L2.St} : PassesAt (L2.CX Y.prog Y.w) (Y.wish (offX Y Wi)) τ Wi := fun qs J z _ _ I c => ⟨qs, τ, J, z, Wi, I.unwish, c, fun _ _ _ h => h⟩
section
variable {X : Cx} {pins : List (Addr × Obj)} {σ : L2.St} {H : Hp} {s : Shared}
/-- the block's dict is forgotten -/
theorem drop_one (h : Heap) (C : Addr) : ∃ G : Heap, G.get? C = none ∧ (∀ b, b ≠ C → G.get? b = h.get? b) := by
  obtain ⟨G, g1, g2⟩ := L2.restrict h fun b => !decide (b = C)
  exact ⟨G, g2 C (by simp), fun b hb => g1 b (by simp [hb])⟩
theorem frs_cons {e : Env} {r : List Env} {L C : Addr} (hf : e.frame = some L) (h1 : C ≠ L) (h2 : C ∉ frs r) : C ∉ frs (e :: r) := by
  intro h
  unfold frs at h h2
  rw [List.filterMap_cons, hf] at h
  rcases List.mem_cons.mp h with z | z
  · exact h1 z
  · exact h2 z
/-- held, the block's dict aside -/
theorem held_less {B h : Heap} {l : List Env} {a L : Addr} {Z : Obj → Prop} (x : HandSPX.HeldZ B l a Z L h) (C : Addr) : ∃ B2 : Heap, B2.get? C = none ∧ (∀ b, b ≠ C → B2.get? b = B.get? b) ∧ HandSPX.HeldZ B2 l a Z L h := by
  obtain ⟨B2, g1, g2⟩ := drop_one B C
  obtain ⟨q1, q2, q3, oe, vs, T, oT, ts, t1, t2, t3, t4, t5, t6⟩ := x
  have none2 : ∀ b, B.get? b = none → B2.get? b = none := fun b hb => by
    by_cases hc : b = C
    · rw [hc]; exact g1
    · rw [g2 b hc]; exact hb
  refine ⟨B2, g1, g2, fun b o e => ?_, none2 a q2, funFrames_none q3 fun b hb => ?_, oe, vs, T, oT, ts, t1, t2, t3, t4, none2 T t5, t6⟩
  · by_cases hc : b = C
    · rw [hc, g1] at e; cases e
    · rw [g2 b hc] at e; exact q1 b o e
  · exact none2 b (q3.mem hb).1
theorem ns_dict {h : Heap} {C : Addr} {m : Str → Option Value} (hn : h.Ns C m) {b : Addr} {o : Obj} {vs : Array Value} (e : h.get? b = some o) (hd : o.data = .fields vs) : b ≠ C := fun z => by
  obtain ⟨o', es, ep, e', d', _⟩ := hn
  rw [z, e'] at e
  cases e
  rw [d'] at hd
  cases hd
/-- held, whatever the block's dict becomes -/
theorem held_but {B h h2 : Heap} {l : List Env} {a L C : Addr} {Z : Obj → Prop} {m m2 : Str → Option Value} (x : HandSPX.HeldZ B l a Z L h) (hB : B.get? C = none) (hn : h.Ns C m) (hn2 : h2.Ns C m2) (sb : Heap.SameBut C h h2) : HandSPX.HeldZ B l a Z L h2 := by
  obtain ⟨q1, q2, q3, oe, vs, T, oT, ts, t1, t2, t3, t4, t5, t6, t7, t8, t9⟩ := x
  refine ⟨fun b o e => ?_, q2, Heap.FunFrames.sameBut sb hn2 q3, oe, vs, T, oT, ts, (sb.2 a (ns_dict hn t1 t3)).trans t1, t2, t3, t4, t5, t6, (sb.2 T (ns_dict hn t7 t8)).trans t7, t8, t9⟩
  refine (sb.2 b fun z => ?_).trans (q1 b o e)
  rw [z, hB] at e
  cases e
theorem off_lands {C : Addr} {cenv : Env} {u : Value} {s' s1 : Shared} {J : Hp} {Eo : XK} {Wx : WX} {m : Str → Option Value}
    (hst : X.stack = X.env :: X.outer) (hf : X.env.frame = some X.env.locals) (tk : Takes X Wx) (hcf : cenv.frame = X.env.frame) (hcC : cenv.locals = C)
    (I : Inv X pins σ J s1) (fC : FpOk X pins J C) (hn : s1.heap.Ns C m) (c : L2.CX X.prog X.w X.stack J s1 Eo u s') (hW : ∀ c d J', Eo c d J' → Wx c d σ J') :
    notedBy (model X.prog X.w) X.A cenv (CompFails (model X.prog X.w) X.A X.xe cenv) u s' := by
  obtain ⟨f0, f1, f2, f3, f4, f5⟩ := fC
  have nC : C ∉ frs X.stack := by
    rw [hst]
    exact frs_cons hf f1 f2
  obtain ⟨a, B, J', cls, d, rfl, fl, hok, ub, na, os, ag, hE⟩ := c
  obtain ⟨oC, es, ep, eC, rC⟩ := id hn
  have hn' : s'.heap.Ns C m := ⟨oC, es, ep, fl.1 C oC (ub.keep C oC eC f0 nC), rC⟩
  have hJC : J' C = none := ub.free C oC eC f0
  have x0 : XE X (fun c d τ J => J C = none ∧ Wx c d τ J) (.ref a) s' :=
    XE.of_call (E := fun c d J => J C = none ∧ Eo c d J) I (fun c d J q => ⟨q.1, hW c d J q.2⟩) ⟨a, B, J', cls, d, rfl, fl, hok, ub, na, os, ag, hJC, hE⟩
  clear fl hok ub na os ag hE hJC rC eC
  obtain ⟨a', B1, sI, qs, τ, J1, cl, d1, ea, I1, nb, up, sky, na1, os1, ag1, hC1, w1⟩ := x0
  cases ea
  have hfr : X.A.frames = some (X.env :: X.outer) := by rw [← hst]; exact I.ok.frames
  have fin : ∀ h1, HandSPX.HeldZ B1 (X.env :: X.outer) a (Zc cl d1) X.env.locals h1 → s'.heap.UpToSlots h1 → CompFails (model X.prog X.w) X.A X.xe cenv (.ref a) { s' with heap := h1 } := by
    intro h1 hh up1
    have hn1 : h1.Ns C m := up1.ns hn'
    obtain ⟨B2, b1, b2, hh2⟩ := held_less hh C
    refine ⟨m, by rw [hcC]; exact hn1, fun h2 m2 hn2 sb => ?_⟩
    rw [hcC] at hn2 sb
    have hh3 := held_but hh2 b1 hn1 hn2 sb
    have hh3' := hh3
    obtain ⟨q1, q2, q3, oe, vs, T, oT, ts, t1, t2, t3, t4, t5⟩ := hh3
    unfold PySem.passOn
    refine wpAny_bind (wpAny_field (s := { s' with heap := h2 }) t1 t3 t4 ?_)
    rw [if_neg (show ¬ ((Value.ref T == Value.none) = true) from by simp), hcf, hf]
    refine wpAny_bind (HandSPX.setFlight_onZ (s := { s' with heap := h2 }) hh3' fun h3 hh4 up3 => wpAny_throw (tk _ _ ?_))
    obtain ⟨G, g1, g2⟩ := drop_one sI.heap C
    have old : ∀ b o, G.get? b = some o → b ≠ C ∧ sI.heap.get? b = some o := fun b o e => by
      by_cases hc : b = C
      · rw [hc, g1] at e; cases e
      · rw [g2 b hc] at e; exact ⟨hc, e⟩
    have I2 : Inv X [] τ J1 { sI with heap := G, toks := sI.toks } := (I1.pins_of (pins' := []) (by simp)).turned (t' := sI.toks) (fun b o hb e => by rw [g2 b hb]; exact e) hC1 f1 f3 f4 fun p hp => f5 p (by
      rw [List.append_nil] at hp
      exact List.mem_append_left _ hp)
    refine ⟨a, B2, _, [], τ, J1, cl, d1, rfl, I2, fun b o e hb => ?_, fun b o e hnf => ?_, .inr (.inr (by rw [hst]; exact hh4)), na1, os1, ag1, w1⟩
    · obtain ⟨hc, e⟩ := old b o e
      rw [b2 b hc]
      exact nb b o e hb
    · obtain ⟨hc, e⟩ := old b o e
      obtain ⟨sl, e⟩ := up b o e hnf
      obtain ⟨sl, e⟩ := up1 b _ e hnf
      obtain ⟨sl3, e3⟩ := up3 b _ ((sb.2 b hc).trans e) hnf
      exact ⟨sl3, e3⟩
  show wpAny _ X.A (noteFrame (.ref a) cenv) _ _ s'
  rw [noteFrame_env _ hcf]
  rw [hst] at sky
  rcases sky with ⟨hB, h0, hl, oe, vs, he, hz, hd, h1⟩ | fl | hh
  · exact HandSPX.look_newZ Zc.steady hfr hl hf he hB h0 hd h1 hz fin
  · exact HandSPX.looks_onZ Zc.steady hfr hf fl fin
  · exact HandSPX.againZ hf hh.2.2.2 (fin s'.heap hh (Heap.UpToSlots.refl _))
/-- .. its reading: te is told what is wished behind an exception -/
def tLcX (wi : TI) (g : TG) (tt : TT) (te : WB → TE) (Wx : WX) (vs : List Nat) : TE := fun σ H Q => tLc wi g tt (te fun c d J => Wx c d σ J) vs σ H Q
/-- [elt for tg in iter if ..], elt may raise -/
theorem pe_lcX {elt tg iter : Expr} {ifs : List Expr} {scope : Scope} {own : List (Str × Nat)} {pos : Pos} {wi : TI} {g : TG} {tt : TT} {te : WB → TE} {Wx : WX}
    (hst : X.stack = X.env :: X.outer) (hf : X.env.frame = some X.env.locals) (tk : Takes X Wx) (hc : X.calm = true) (hN : X.N.Nodup) (hi : PI X tg iter wi) (ok : BlkOk X.N X.env.scope scope own)
    (hg : ∀ (z : Shared) (J : Hp) (C : Addr) (cl : List (Str × Addr)) (fp : List Addr), PG (X.blk z J scope (compEnvC scope cl C X.env) fp) tg g)
    (ht : ∀ (z : Shared) (J : Hp) (C : Addr) (cl : List (Str × Addr)) (fp : List Addr), PTs (X.blk z J scope (compEnvC scope cl C X.env) fp) ifs tt)
    (he : ∀ (z : Shared) (J : Hp) (C : Addr) (cl : List (Str × Addr)) (fp : List Addr) (Wi : WB), PE ((X.blk z J scope (compEnvC scope cl C X.env) fp).wish (offX (X.blk z J scope (compEnvC scope cl C X.env) fp) Wi)) elt (te Wi))
    (hs : ∀ x, foldedSetIterable iter X.env x = pure x := by intro _; rfl) :
    PE X (.ListComp elt [⟨tg, iter, ifs, 0⟩] scope pos) (tLcX wi g tt te Wx (own.map (·.2))) := by
  refine ⟨fun pins s σ H Q I h => ?_⟩
  rw [eval_ListComp]
  have caught : ∀ y ∈ scope.names, y.2 = .free → ∃ c, X.env.cells.lookup y.1 = some c := fun y hy e =>
    (ok.free y hy e).elim (fun k => I.ok.has _ (.inl k)) fun k => I.ok.has _ (.inr k)
  refine comprehension_at (use := none) rfl hs (closure_ok caught) ok.kind (fun y hy e => by rw [ok.uniq y hy, e])
    (thn (hi.run pins s σ H _ I h) fun _ _ h1 => thn h1 fun _ s2 h2 => ?_)
  obtain ⟨it, fp, tn, It0, J2, e, I2, T, st2, f2, q⟩ := h2
  subst e
  refine wpAny_newObj_type (newEnv_comp ?_) (Nat.zero_le _)
  generalize hD : s2.heap.objs.size = D
  have hDn : J2 D = none := I2.hok.fresh (Nat.le_of_eq hD)
  obtain ⟨W, ⟨m0, w0⟩, turn⟩ := q D hDn
  generalize hz : ({ s2 with heap := s2.heap.push { cls := .type "list", data := .seq ([] : List Value).toArray } } : Shared) = z
  have hzh : z.heap = s2.heap.push { cls := .type "list", data := .seq ([] : List Value).toArray } := by rw [← hz]
  have I3 : Inv X pins σ (upd J2 D (.lst [])) z := by
    rw [← hz]
    exact I2.laid (t' := s2.toks) (fun _ _ e => Heap.get?_push_of_some _ e) (Nat.le_of_eq hD) ⟨Nat.zero_le _, [], 0, .nil, by rw [← hD]; exact Heap.get?_push_size _ rfl⟩
  have old : ∀ b ∈ fp, b < s2.heap.objs.size := fun b hb => by
    obtain ⟨o, e, _⟩ := T.obj _ _ st2 b hb
    exact Heap.lt_size e
  have f3 : ∀ b ∈ fp, FpOk X pins (upd J2 D (.lst [])) b ∧ b < z.heap.objs.size := fun b hb =>
    ⟨⟨by rw [upd_ne (by rw [← hD]; exact Nat.ne_of_lt (old b hb))]; exact (f2 b hb).1, (f2 b hb).2⟩, by rw [hzh, Heap.size_push]; exact Nat.lt_succ_of_lt (old b hb)⟩
  have st3 : tn 0 z.heap := T.keep _ _ _ st2 fun b _ o e => by rw [hzh]; exact Heap.get?_push_of_some _ e
  have I4 := block_start I3 ok hN f3
  generalize hcl : cellsFrom (z.heap.objs.size + 1) scope.names (cloFrom X.env.cells scope.names []) = cl at I4
  generalize hJ3 : upd J2 D (.lst []) = J3 at I3 I4 w0 f3
  have pg := hg z J3 z.heap.objs.size cl fp
  have pt := ht z J3 z.heap.objs.size cl fp
  have pe := he z J3 z.heap.objs.size cl fp fun c d J => Wx c d σ J
  show codeAny _ _ (.compStart (.ListComp elt [⟨tg, iter, ifs, 0⟩] scope pos) 0 (.ref it) (.ref D) (compEnvC scope cl z.heap.objs.size X.env)) (compEnds (model X.prog X.w) X.A X.xe none _ (.ref D) (compEnvC scope cl z.heap.objs.size X.env)) _
  have cL : (compEnvC scope cl z.heap.objs.size X.env).locals = z.heap.objs.size := rfl
  have cF : (compEnvC scope cl z.heap.objs.size X.env).frame = X.env.frame := rfl
  generalize compEnvC scope cl z.heap.objs.size X.env = ce at I4 pg pt pe cL cF ⊢
  generalize hs4 : ({ z with heap := pushCells (z.heap.push { cls := .type "dict", data := .dict #[] }) scope.names } : Shared) = s4 at I4 ⊢
  have st4 : tn 0 s4.heap := T.keep _ _ _ st3 fun b _ o e => by rw [← hs4]; exact pushCells_keeps _ _ _ _ (Heap.get?_push_of_some _ e)
  have nfp : ∀ b ∈ fp, J3 b = none := fun b hb => (f3 b hb).1.1
  have stat : ∀ {τ : L2.St} {J : Hp} {t : Shared}, Inv (X.blk z J3 scope ce fp) [] τ J t → (∀ b ∈ fp, J b = none) → ∀ b ∈ fp, FpOk (X.blk z J3 scope ce fp) [] J b := fun {τ J t} I' hn b hb =>
    ⟨hn b hb, (I'.ok.exf b hb).1, I'.ok.exfs b hb, .inl hb, fun x c e => (I'.ok.exf b hb).2 x c e, fun p hp => absurd (show p ∈ ([] : List (Addr × Obj)) from hp) (by simp)⟩
  -- the def's own view of a state within the block
  have outer : ∀ {qs : List (Addr × Obj)} {τ : L2.St} {J : Hp} {t : Shared}, Inv (X.blk z J3 scope ce fp) qs τ J t → Inv X pins σ J t ∧ FpOk X pins J z.heap.objs.size ∧ ∃ m, t.heap.Ns z.heap.objs.size m := fun {qs τ J t} I' => by
    have none : J z.heap.objs.size = none := by
      have q : J ce.locals = none := I'.free
      rwa [cL] at q
    obtain ⟨m, hn, _⟩ := I'.loc
    have hn : t.heap.Ns ce.locals m := hn
    rw [cL] at hn
    exact ⟨I3.call' (ch := fp) I'.os I'.base I'.hok I'.bare fun b hb => ⟨(f3 b hb).1.2.2.2.1, (f3 b hb).1.2.1, (f3 b hb).1.2.2.2.2.1, (f3 b hb).1.2.2.2.2.2⟩, I3.fpOk (Nat.le_refl _) none, m, hn⟩
  refine codeAny_compStart_list (?loop) (T.self X.A 0 _ _ _ st4 ?loop)
  refine compLoop_any (fun n t => ∃ i J, Inv (X.blk z J3 scope ce fp) [] (wipe σ (own.map (·.2))) J t ∧ tn i t.heap ∧ (∀ b ∈ fp, J b = none) ∧ W i n J) ?_ m0 ⟨0, J3, I4, st4, nfp, w0⟩
  rintro n s5 ⟨i, J5, I5, st5, n5, w5⟩
  rcases turn i n J5 w5 with ⟨stop, qq⟩ | ⟨go, Nx, hNx, step⟩
  · refine thnF (T.done (X.blk z J3 scope ce fp) rfl rfl rfl hc i [] s5 _ J5 (fun _ _ => False) I5 (stat I5 n5) st5 stop) fun r s6 ⟨hr, I6⟩ => ?_
    subst hr
    obtain ⟨I7, ⟨k0, k1, k2, k3, k4, k5⟩, m, hn⟩ := outer I6
    refine ⟨m, by rw [cL]; exact hn, fun h'' sb => ?_⟩
    rw [cL] at sb
    exact ⟨.ref D, J5, I7.turned (t' := s6.toks) (fun b o hb e => (sb.2 b hb).trans e) k0 k1 k3 k4 k5, rfl, qq⟩
  · refine thnF (T.item (X.blk z J3 scope ce fp) rfl rfl rfl hc i [] s5 _ J5 (fun _ _ => False) I5 (stat I5 n5) st5 go) fun r s6 ⟨u, hr, h6⟩ => ?_
    subst hr
    refine thnF h6 fun _ s7 ⟨x, J7, I7, r7, y7, st7, n7⟩ => ?_
    refine thnF (pg.run _ s7 _ J7 x u _ (I7.pinned (stat I7 n7) (T.obj _ _ st7)) r7 (step x J7 y7)) fun _ s8 ⟨τ8, J8, I8, hw8, q8⟩ => ?_
    refine thnF (pt.run _ s8 τ8 J8 _ I8 q8) fun b s9 ⟨J9, I9, q9⟩ => ?_
    have fin : ∀ {t : Shared} {J : Hp}, Inv (X.blk z J3 scope ce fp) ([] ++ pinsAt fp s7.heap) τ8 J t → Nx J → ∃ m, m < n ∧ ∃ i J, Inv (X.blk z J3 scope ce fp) [] (wipe σ (own.map (·.2))) J t ∧ tn i t.heap ∧ (∀ b ∈ fp, J b = none) ∧ W i m J := fun {t J} I' nx => by
      obtain ⟨m', hm, w'⟩ := hNx J nx
      have pin' : ∀ b ∈ fp, ∀ o, s7.heap.get? b = some o → t.heap.get? b = some o ∧ J b = none := fun b hb o e => by
        have q := I'.pin (b, o) (List.mem_append_right _ (List.mem_append_right _ (mem_pinsAt hb e)))
        exact ⟨q.1, q.2.1⟩
      refine ⟨m', hm, i + 1, J, (I'.unpinned (pins := [])).weak (by rw [← hw8, wipe_length]) (fun j v e => ?_), T.keep _ _ _ st7 fun b hb o e => (pin' b hb o e).1, fun b hb => ?_, w'⟩
      · rw [← hw8] at e
        exact (wipe_some e).1
      · obtain ⟨o, e, _⟩ := T.obj _ _ st7 b hb
        exact (pin' b hb o e).2
    cases b with
    | false =>
      rw [if_neg Bool.false_ne_true] at q9
      rw [if_neg Bool.false_ne_true]
      exact fin I9 q9
    | true =>
      rw [if_pos rfl] at q9
      rw [if_pos rfl]
      refine wpAny_mono (pe.run _ s9 τ8 J9 _ (I9.wish _) q9) (fun v s10 ⟨y, J10, I10, r10, acc, hD10, hz10, nx⟩ => ?_) fun e s' ⟨qs, τ, J, t, Eo, It, co, hE⟩ => ?_
      · exact app_ok (X := X.blk z J3 scope ce fp) I10.unwish hD10 hz10 r10 fun s11 I11 => fin I11 nx
      · obtain ⟨I', fC, m, hn⟩ := outer It
        exact off_lands hst hf tk cF cL I' fC hn co hE
end
end Tw

set_option Elab.async false
set_option linter.all false
set_option maxRecDepth 100000
set_option maxHeartbeats 4000000
namespace Tw
open PySem PySem.Spec PyProof.Rows L2
/-! ### texts: walked, split, searched, read as numbers -/
def chD (z : Str) : List D := z.cps.toList.map fun c => .str ⟨#[c]⟩
def iStrD (f : Ex) : It1 := fun ρ => match f ρ with
  | some (.str z) => if z.length ≤ LIM then some (chD z) else none
  | _ => none
def dFind : D → D → Option D
  | .str a, .str b => some (.int (Txt.find a b))
  | _, _ => none
def dSplit (sep : Str) : D → Option D
  | .str z => if z.length ≤ 100000 ∧ (Txt.split z sep).length ≤ LIM then some (.list ((Txt.split z sep).map .str)) else none
  | _ => none
def dIntS : D → Option D
  | .str a => if a.length ≤ 640 then (PySem.intText? a).map .int else none
  | _ => none
/-- xs[2::4] -/
def pick24 {α : Type} (xs : List α) : List α := (List.range ((xs.length + 1) / 4)).filterMap fun k => xs[2 + 4 * k]?
def dPick : D → Option D
  | .list ds => some (.list (pick24 ds))
  | _ => none
/-- range(2, n, 4) -/
def iR24 (fa fb fc : Ex) : It1 := fun ρ => match fa ρ, fb ρ, fc ρ with
  | some (.int 2), some (.int j), some (.int 4) => if 0 ≤ j ∧ j < 1000000 then some ((List.range ((j.toNat + 1) / 4)).map fun k => .int (2 + (k : Nat) * 4)) else none
  | _, _, _ => none
section
variable {X : Cx} {own : Nat → Bool} {tg l a b c : Expr} {f fa fb fc : Ex} {p pos : Pos}
theorem i_str {fz : Bool} (hl : PE X l (tB X.K own f)) : PI X tg l (tI X.K own fz (iStrD f)) := by
  refine pi_weak (pi_str hl) ?_
  rintro σ H R ⟨B, F0, ρ, F, re, ds, e, q⟩
  unfold iStrD at e
  split at e
  · next z ez =>
    split at e <;> cases e
    refine ⟨B, F0, ρ, F, re, _, ez, fun v F1 H1 g1 b1 => ⟨z, Br.str b1, q _ F1 H1 g1 ?_⟩⟩
    intro F2 H2 s1 s2 s3
    have hl : (chD z).length = z.cps.size := by unfold chD; rw [List.length_map, Array.length_toList]
    refine ⟨fun i hi => by rw [hl] at hi; exact hi, by rw [hl]; exact Nat.le_refl _, fun i x H' hi y => ?_⟩
    obtain ⟨rfl, ch, hc, rfl⟩ := y
    refine ⟨F2, _, .refl s2, ?_, .str _⟩
    unfold chD
    rw [List.getElem?_map, Array.getElem?_toList, hc]
    rfl
  · cases e
theorem i_r3 {fz : Bool} (hm : X.mg "range" = none) (ha : PE X a (tF X.K own fa)) (hb : PE X b (tF X.K own fb)) (hc : PE X c (tF X.K own fc)) (hg : Gl X "range" := by rfl) (hs : starEach [a, b, c] X.env = (false, eval a X.env) :: starEach [b, c] X.env := by rfl)
    (hs2 : starEach [b, c] X.env = (false, eval b X.env) :: starEach [c] X.env := by rfl) (hs3 : starEach [c] X.env = (false, eval c X.env) :: starEach [] X.env := by rfl) (hpl : (backTo pos (starEach [b, c] X.env)).any (·.1) = false := by rfl) :
    PI X tg (.Call (.Name "range" p) [a, b, c] [] pos) (tI X.K own fz (iR24 fa fb fc)) := by
  refine pi_weak (pi_range3 hg hm (a_cons ha (a_cons hb (a_cons hc a_nil hs3) hs2) hs) hs hpl) ?_
  rintro σ H R ⟨B, F0, ρ, F, re, ds, e, q⟩
  unfold iR24 at e
  split at e
  · next j e1 e2 e3 =>
    split at e <;> cases e
    rename_i hj
    refine ⟨B, F0, ρ, F, re, [.int 2, .int j, .int 4], ?_, fun vs F1 H1 g1 r1 => ?_⟩
    · unfold xCons
      rw [e1, e2, e3]
      rfl
    · have hv : vs = [V.int 2, .int j, .int 4] := RpAll.ints (ns := [2, j, 4]) r1
      have hz : Builtin.Range.rangeSize 2 j 4 = (((j.toNat + 1) / 4 : Nat) : Int) := by
        unfold Builtin.Range.rangeSize
        rw [if_pos (by decide)]
        split <;> omega
      have fits : ∀ k : Int, 0 ≤ k → k < 2000000 → Builtin.Range.rangeFitsLong k = true := fun k h1 h2 => by
        unfold Builtin.Range.rangeFitsLong
        simp
        omega
      refine ⟨2, j, 4, (j.toNat + 1) / 4, hv, ⟨by decide, by decide, ?_, hz⟩, q _ F1 H1 g1 ?_⟩
      · unfold Builtin.Range.small
        rw [hz]
        simp
        exact ⟨⟨⟨⟨fits _ (by omega) (by omega), fits _ (by omega) (by omega)⟩, fits _ (by omega) (by omega)⟩, fits _ (by omega) (by omega)⟩, .inr (fits _ (by omega) (by omega))⟩
      · intro F2 H2 s1 s2 s3
        have hl : ((List.range ((j.toNat + 1) / 4)).map fun k => PyData.int (2 + (k : Nat) * 4)).length = (j.toNat + 1) / 4 := by rw [List.length_map, List.length_range]
        refine ⟨fun i hi => by rw [hl] at hi; exact hi, by rw [hl]; exact Nat.le_refl _, fun i x H' hi y => ?_⟩
        obtain ⟨rfl, rfl⟩ := y
        rw [hl] at hi
        refine ⟨F2, _, .refl s2, ?_, .int _⟩
        rw [List.getElem?_map, List.getElem?_range hi]
        rfl
  · cases e
/-- .. in a text -/
theorem ok_inS : OpOk .fz X.K (fun x y H Q => ∃ i j, x = .str i ∧ y = .str j ∧ Q (.bl (!(Builtin.Str.occurrences j i 0 j.length 1).isEmpty)) H) (dInS false) := by
  intro F H x y dx dy d Q fh bx byy e q
  unfold dInS at e
  split at e
  · next cs z =>
    split at e
    · next ch hcs =>
      cases e
      rw [Br.str bx, Br.str byy]
      refine ⟨_, _, rfl, rfl, ?_⟩
      have e1 : (⟨cs⟩ : Str) = SX.S [ch] := by rw [← hcs]
      rw [e1, ← SX.S_tl z, SX.in_one]
      refine q _ F H (.refl fh) ?_
      rw [Bool.false_xor]
      exact .bl _
    · cases e
  · cases e
theorem e_inS (ha : PE X a (tB X.K own fa)) (hb : PE X b (tB X.K own fb)) (hm : behindInMarks .In b = false := by rfl) : PE X (.Compare a [.In] [b] pos) (tF X.K own (x2 (dInS false) fa fb)) := e_cmp op_in_str ok_inS ha hb hm
theorem ok_intS : CallOk .fz X.K (fun xs H Q => ∃ a n, xs = [V.str a] ∧ PySem.intText? a = some n ∧ a.length ≤ 640 ∧ Q (V.int n) H) (on1 dIntS) := by
  intro F H vs ds d Q fh b e q
  obtain ⟨x, rfl, e'⟩ := on1_some e
  obtain ⟨v, rfl, b'⟩ := br1 b
  cases x <;> simp only [dIntS] at e' <;> try cases e'
  next z =>
  split at e' <;> try cases e'
  rename_i hl
  cases e3 : PySem.intText? z with
  | none => rw [e3] at e'; cases e'
  | some n =>
    rw [e3] at e'
    cases e'
    rw [Br.str b']
    exact ⟨_, n, rfl, e3, hl, q _ F H (.refl fh) (.int _)⟩
section
variable {apos cpos p1 : Pos} {sep : Str} {k : Nat}
/-- x.split("..") -/
theorem n_split (hsep : (sep.length == 0) = false) (ha : PE X a (tB X.K own fa)) (hbase : attributeBase a "split" X.env (eval a X.env) = eval a X.env := by rfl) (hline : (apos.endLine == cpos.line) = true := by rfl)
    (hs : starEach [.Constant (.str sep) k p1] X.env = [(false, eval (.Constant (.str sep) k p1) X.env)] := by rfl) :
    PE X (.Call (.Attribute a "split" apos) [.Constant (.str sep) k p1] [] cpos) (tN X.K own (x1 (dSplit sep) fa)) := by
  refine pe_weak (pe_split ha pe_str hs hbase hline) ?_
  rintro σ H Q ⟨B, F0, ρ, F, re, d, e, q⟩
  obtain ⟨x, e1, e2⟩ := x1_some e
  cases x <;> simp only [dSplit] at e2 <;> try cases e2
  next z =>
  split at e2 <;> cases e2
  rename_i hl
  refine ⟨B, F0, ρ, F, re, _, e1, fun v F1 H1 g1 b1 => ⟨⟨z, Br.str b1⟩, z, sep, Br.str b1, rfl, hsep, Nat.le_trans (Nat.add_le_add_right hl.1 2) (by decide), fun p hp => ?_⟩⟩
  have hf : F1 p = none := g1.fh.free hp
  exact q _ F1 _ (g1.trans (.own g1.fh hp)) ⟨p, _, _, rfl, rfl, g1.hh.free hp, hf, upd_same, by rw [List.length_map]; exact hl.2, RpAll.ofStrs _⟩
/-- x.find(y) -/
theorem e_find (ha : PE X a (tB X.K own fa)) (hb : PE X b (tB X.K own fb)) (hbase : attributeBase a "find" X.env (eval a X.env) = eval a X.env := by rfl) (hline : (apos.endLine == cpos.line) = true := by rfl)
    (hs : starEach [b] X.env = [(false, eval b X.env)] := by rfl) :
    PE X (.Call (.Attribute a "find" apos) [b] [] cpos) (tF X.K own (x2 dFind fa fb)) := by
  refine pe_weak (pe_m1 PySem.F.slot_str_find PySem.F.type_str_find mt_find ha hb hs hbase hline) ?_
  rintro σ H Q ⟨B, F0, ρ, F, re, d, e, q⟩
  obtain ⟨x, y, e1, e2, e3⟩ := x2_some e
  cases x <;> simp only [dFind] at e3 <;> try cases e3
  next z =>
  cases y <;> simp only [dFind] at e3 <;> try cases e3
  refine ⟨B, F0, ρ, F, re, _, e1, fun v F1 H1 g1 b1 => ⟨⟨z, Br.str b1⟩, B, F0, ρ, F1, re.grow g1, _, e2, fun u F2 H2 g2 b2 => ⟨z, _, Br.str b1, by rw [Br.str b2], q _ F2 H2 (g1.trans g2) (.int _)⟩⟩⟩
end
theorem RpAll.picked {K : PySem.W.Frag} {F : Hp} {vs : List V} {ds : List D} (r : RpAll K F vs ds) : ∀ ks : List Nat, RpAll K F (ks.filterMap (vs[·]?)) (ks.filterMap (ds[·]?))
  | [] => .nil
  | k :: ks => by
    rw [List.filterMap_cons, List.filterMap_cons]
    cases e : ds[k]? with
    | none =>
      have : vs[k]? = none := by
        rw [List.getElem?_eq_none_iff] at e ⊢
        rw [r.length]
        exact e
      rw [this]
      exact RpAll.picked r ks
    | some d =>
      obtain ⟨v, e2, rv⟩ := r.get e
      rw [e2]
      exact .cons rv (RpAll.picked r ks)
theorem vals_at : ∀ {vs : List V} {us : List Value} {k : Nat}, Vals vs us → ∀ (h : k < vs.length) (h' : k < us.length), RelV vs[k] us[k]
  | _, _, 0, .cons r _, _, _ => r
  | _, _, k + 1, .cons _ t, h, h' => vals_at (k := k) t (Nat.lt_of_succ_lt_succ h) (Nat.lt_of_succ_lt_succ h')
theorem vals_picked {vs : List V} {us : List Value} (r : Vals vs us) : ∀ ks : List Nat, Vals (ks.filterMap (vs[·]?)) (ks.filterMap (us[·]?))
  | [] => .nil
  | k :: ks => by
    have hl := r.length
    rw [List.filterMap_cons, List.filterMap_cons]
    by_cases h : k < vs.length
    · have h' : k < us.length := by omega
      rw [List.getElem?_eq_getElem h, List.getElem?_eq_getElem h']
      refine .cons ?_ (vals_picked r ks)
      exact vals_at r h h'
    · rw [List.getElem?_eq_none (by omega), List.getElem?_eq_none (by omega)]
      exact vals_picked r ks
theorem pick24_ks {α : Type} (xs : List α) : pick24 xs = ((List.range ((xs.length + 1) / 4)).map fun k => 2 + 4 * k).filterMap (xs[·]?) := by
  unfold pick24
  rw [List.filterMap_map]
  rfl
theorem pick24_le {α : Type} (xs : List α) : (pick24 xs).length ≤ xs.length := by
  unfold pick24
  refine Nat.le_trans (List.length_filterMap_le _ _) ?_
  rw [List.length_range]
  omega
theorem slicePick24 (its : List Value) : slicePick its.toArray (some 2) none (some 4) = (pick24 its).toArray := by
  unfold slicePick
  congr 1
  rw [pick24_ks]
  have e : sliceRange (sliceBounds (some 2) none (some 4) its.toArray.size).1 (sliceBounds (some 2) none (some 4) its.toArray.size).2.1 (sliceBounds (some 2) none (some 4) its.toArray.size).2.2 = (List.range ((its.length + 1) / 4)).map fun k => 2 + 4 * k := by
    have h1 : (sliceBounds (some 2) none (some 4) its.toArray.size).1 = max 0 (min 2 (its.length : Int)) := by
      simp [sliceBounds]
    have h2 : (sliceBounds (some 2) none (some 4) its.toArray.size).2.1 = (its.length : Int) := by simp [sliceBounds]
    have h3 : (sliceBounds (some 2) none (some 4) its.toArray.size).2.2 = 4 := by simp [sliceBounds]
    rw [h1, h2, h3]
    unfold sliceRange
    rw [if_pos (by decide)]
    by_cases hn : 2 < its.length
    · have h4 : max (0 : Int) (min 2 (its.length : Int)) = 2 := by omega
      rw [h4, if_pos (by omega)]
      dsimp only
      have h5 : (((its.length : Int) - 2 + 4 - 1) / 4).toNat = (its.length + 1) / 4 := by omega
      rw [h5]
      apply List.map_congr_left
      intro k _
      omega
    · have h4 : max (0 : Int) (min 2 (its.length : Int)) = (its.length : Int) := by omega
      have h5 : (its.length + 1) / 4 = 0 := by omega
      rw [h4, if_neg (by omega), h5]
      rfl
  rw [e]
  apply fm_congr
  intro k _
  rw [List.getElem?_toArray]
def tPick (K : PySem.W.Frag) (te : TE) : TE := fun σ H Q => te σ H fun x H1 => ∃ a xs, x = .ref a ∧ SqL K H1 a xs ∧ ∀ p, H1 p = none → Q (.ref p) (upd H1 p (.lst (pick24 xs)))
theorem pe_pick {e : Expr} {te : TE} {k1 k2 : Nat} {p1 p2 p3 pos : Pos} (he : PE X e te) : PE X (.Subscript e (.Slice (some (.Constant (.int 2) k1 p1)) none (some (.Constant (.int 4) k2 p2)) p3) pos) (tPick X.K te) := by
  refine ⟨fun pins s σ H Q I h => Subscript_ (thn (he.run pins s σ H _ I h) ?_)⟩
  rintro v s1 ⟨x, H1, I1, r1, a, xs, rfl, hx, q⟩
  cases r1
  have pLo : PO X (some (.Constant (.int 2) k1 p1)) (tPart (tC (.int 2))) := po_some pe_int
  have pSt : PO X (some (.Constant (.int 4) k2 p2)) (tPart (tC (.int 4))) := po_some pe_int
  refine wpAny_Slice (thn (pLo.run pins s1 σ H1 (fun o Hx => o = some 2 ∧ Hx = H1) I1 ⟨2, rfl, rfl, rfl⟩) ?_)
  rintro vl s2 ⟨o2, H2, I2, pl, rfl, rfl⟩
  refine thn (po_none.run pins s2 σ H2 (fun o Hx => o = none ∧ Hx = H2) I2 ⟨rfl, rfl⟩) ?_
  rintro vu s3 ⟨o3, H3, I3, pu, rfl, rfl⟩
  refine thn (pSt.run pins s3 σ H3 (fun o Hx => o = some 4 ∧ Hx = H3) I3 ⟨4, rfl, rfl, rfl⟩) ?_
  rintro vs s4 ⟨o4, H4, I4, ps, rfl, rfl⟩
  have I5 : Inv X pins σ H4 { s4 with heap := s4.heap.push { cls := .type "slice", data := .fields #[vl, vu, vs] } } := I4.kept (t' := s4.toks) fun _ _ q => Heap.get?_push_of_some _ q
  obtain ⟨its, r, ht, hz⟩ := I5.list hx
  have hlen := r.length
  refine tail_any (ops := [.ref a, .ref s4.heap.objs.size]) ht.isList.typeIs (PySem.F.slot_list_getitem.lookup) ?_ (by with_unfolding_all rfl)
  refine wpAny_getItem_list_slice ht.isList (Heap.IsSliceOf.new _ vl vu vs) pl pu ps (by simp) ?_ (by rw [List.size_toArray]; omega)
  rw [slicePick24]
  refine ⟨.ref _, _, I5.laid (t' := s4.toks) (o := .lst (pick24 xs)) (fun _ _ q => Heap.get?_push_of_some _ q) (Nat.le_refl _) ?_, rfl, q _ (I5.hok.fresh (Nat.le_refl _))⟩
  refine ⟨Nat.le_trans (pick24_le xs) hz, pick24 its, 0, ?_, Heap.get?_push_size _ rfl⟩
  rw [pick24_ks, pick24_ks, hlen]
  exact vals_picked r _
theorem e_pick {e : Expr} {k1 k2 : Nat} {p1 p2 p3 : Pos} (he : PE X e (tB X.K own f)) : PE X (.Subscript e (.Slice (some (.Constant (.int 2) k1 p1)) none (some (.Constant (.int 4) k2 p2)) p3) pos) (tF X.K own (x1 dPick f)) := by
  refine pe_weak (pe_pick he) ?_
  rintro σ H Q ⟨B, F0, ρ, F, re, d, e, q⟩
  obtain ⟨x, e1, e2⟩ := x1_some e
  cases x <;> simp only [dPick] at e2 <;> cases e2
  next ds =>
  refine ⟨B, F0, ρ, F, re, _, e1, fun v F1 H1 g1 b1 => ?_⟩
  obtain ⟨a, vs, rfl, k1, k2, k3⟩ := Br.lst g1.fh b1
  refine ⟨a, vs, rfl, .of k1, fun p hp => ?_⟩
  have g2 : Grow F1 H1 (upd F1 p (.lst (pick24 vs))) (upd H1 p (.lst (pick24 vs))) := .new g1.fh hp
  refine q _ _ _ (g1.trans g2) (.lst upd_same (Nat.le_trans (pick24_le vs) k2) (RpAll.mono g2.ff ?_))
  rw [pick24_ks, pick24_ks, k3.length]
  exact k3.picked _
end
end Tw

set_option Elab.async false
set_option linter.all false
set_option maxRecDepth 100000
set_option maxHeartbeats 4000000
namespace Tw
open PySem PySem.Spec PyProof.Rows L2
/-! ### what may raise within an expression -/
def consX (y : D) : D → D
  | .list ys => .list (y :: ys)
  | d => d
def compGoX (tg : Tg) (elt : Ex) (ρ : Rho) : List D → Option D
  | [] => some (.list [])
  | d :: r => (tg d ρ).bind fun ρ1 => (elt ρ1).bind fun y => if isEx y = true then some exD else (compGoX tg elt ρ r).map (consX y)
def xCompX (fi : It1) (vs : List Nat) (tg : Tg) (elt : Ex) : Ex := fun ρ => (fi ρ).bind fun ds => if ds.length ≤ LIM then compGoX tg elt (wipeR ρ vs) ds else none
def dTupX : D → Option D
  | .list ds => some (.tuple ds)
  | .dict [] => some exD
  | _ => none
def xTupX (fa fb : Ex) : Ex := fun ρ => (fa ρ).bind fun x => if isEx x = true then some exD else (fb ρ).bind fun y => some (.tuple [x, y])
def sAppX (i : Nat) (f : Ex) : Sx := fun ρ => match ρ[i]? with
  | some (some (.list ds)) => (f ρ).bind fun d => if isEx d = true then some (.rt exD) else if ds.length < LIM then some (.nx (ρ.set i (some (.list (ds ++ [d]))))) else none
  | _ => none
def preX (ads : List D) : D → D
  | .list ys => .list (ads ++ ys)
  | d => d
theorem preX_nil (d : D) : preX [] d = d := by cases d <;> rfl
theorem preX_cons (ads : List D) (y d : D) : preX ads (consX y d) = preX (ads ++ [y]) d := by
  cases d <;> simp [preX, consX]
/-- a new list, or what is wished -/
def tNX (K : PySem.W.Frag) (own : Nat → Bool) (W : L2.St → Hp → Prop) (f : Ex) : TE := fun σ H Q => ∃ B F0 ρ F, RE K B F0 own ρ σ F H ∧ ∃ d, f ρ = some d ∧
  (∀ ds, d = .list ds → ∀ v F' H', Grow F H F' H' → Kd.nw.rel K F' H H' v d → Q v H') ∧ (d = exD → ∀ F1 H1, Grow F H F1 H1 → W σ H1) ∧ (d = exD ∨ ∃ ds, d = .list ds)
theorem compGoX_res {tg : Tg} {elt : Ex} {ρ : Rho} : ∀ {ds : List D} {d : D}, compGoX tg elt ρ ds = some d → d = exD ∨ ∃ ys, d = .list ys
  | [], d, h => by cases h; exact .inr ⟨[], rfl⟩
  | x :: r, d, h => by
    rw [compGoX] at h
    cases e1 : tg x ρ with
    | none => rw [e1] at h; cases h
    | some ρ1 =>
      rw [e1] at h
      dsimp only [Option.bind_some] at h
      cases e2 : elt ρ1 with
      | none => rw [e2] at h; cases h
      | some y =>
        rw [e2] at h
        dsimp only [Option.bind_some] at h
        split at h
        · cases h; exact .inl rfl
        · cases e3 : compGoX tg elt ρ r with
          | none => rw [e3] at h; cases h
          | some d' =>
            rw [e3] at h
            cases h
            rcases compGoX_res e3 with rfl | ⟨ys, rfl⟩
            · exact .inl rfl
            · exact .inr ⟨y :: ys, rfl⟩
section
variable {K : PySem.W.Frag} {own : Nat → Bool} {fi : It1} {fz : Bool} {gt : Tg} {fe : Ex} {C : Addr} {Wx : WX}
/-- the reading of a comprehension that may raise C -/
theorem compX_ok {vs : List Nat} {σ : L2.St} {H : Hp} {Q : VK} (h : tNX K own (fun σ H => Wx (.ref C) none σ H) (xCompX fi vs gt fe) σ H Q) :
    tLcX (tI K own fz fi) (tG K own gt vs) (tT K own xYes) (fun Wi => tFX K own (fun _ J => Wi (.ref C) none J) fe) Wx vs σ H Q := by
  obtain ⟨B, F0, ρ, F, re, d, e, q, qx, _⟩ := h
  unfold xCompX at e
  cases e1 : fi ρ with
  | none => rw [e1] at e; cases e
  | some ds =>
    rw [e1] at e
    dsimp only [Option.bind_some] at e
    split at e
    case isFalse => cases e
    rename_i hlim
    refine ⟨B, F0, ρ, F, re, ds, e1, fun J F1 H1 g1 wk Dd hD => ?_⟩
    have rw0 := (re.grow g1).wiped vs
    have hF : F1 Dd = none := g1.fh.free hD
    have hB : B Dd = none := rw0.bh.free hD
    have apart : ∀ (j : Nat) (e : D), (wipeR ρ vs)[j]? = some (some e) → own j = true → (wipe σ vs)[j]? = some (some (.ref Dd)) → False := rw0.other hD
    refine ⟨fun i m H => ∃ F2 acc ads, m = ds.length - i ∧ i ≤ ds.length ∧ RE K B F0 own (wipeR ρ vs) (wipe σ vs) F2 H ∧ Same F1 F2 ∧ Same H1 H ∧ (∀ a o, H1 a = some o → F2 a = F1 a) ∧ H Dd = some (.lst acc) ∧ F2 Dd = none ∧ RpAll K F2 acc ads ∧ acc.length ≤ i ∧
      (compGoX gt fe (wipeR ρ vs) (ds.drop i)).map (preX ads) = some d, ⟨_, F1, [], [], rfl, Nat.zero_le _, rw0.aside hF hB apart, .refl _, same_upd hD, fun _ _ _ => rfl, upd_same, hF, .nil, Nat.le_refl _, ?_⟩, ?_⟩
    · rw [List.drop_zero, e, Option.map_some, preX_nil]
    · rintro i m H2 ⟨F2, acc, ads, rfl, hi, re2, s1, s2, nf, hDd, fD, ra, hacc, ec⟩
      obtain ⟨w1, w2, w3⟩ := wk F2 H2 s1 re2.fh (fun _ => s2)
      by_cases hlt : i < ds.length
      · refine .inr ⟨w1 i hlt, fun H' => ∃ F2 acc ads, RE K B F0 own (wipeR ρ vs) (wipe σ vs) F2 H' ∧ Same F1 F2 ∧ Same H1 H' ∧ (∀ a o, H1 a = some o → F2 a = F1 a) ∧ H' Dd = some (.lst acc) ∧ F2 Dd = none ∧ RpAll K F2 acc ads ∧ acc.length ≤ i + 1 ∧
          (compGoX gt fe (wipeR ρ vs) (ds.drop (i + 1))).map (preX ads) = some d, ?_, ?_⟩
        · rintro H' ⟨F', acc', ads', h⟩
          exact ⟨ds.length - (i + 1), by omega, F', acc', ads', rfl, hlt, h⟩
        · intro x H3 y
          obtain ⟨F3, dd, g3, ed, rd⟩ := w3 i x H3 hlt y
          have ed' : ds[i] = dd := by
            rw [List.getElem?_eq_getElem hlt] at ed
            exact Option.some.inj ed
          rw [List.drop_eq_getElem_cons hlt, compGoX, ed'] at ec
          cases e4 : gt dd (wipeR ρ vs) with
          | none => rw [e4] at ec; cases ec
          | some ρ4 =>
            rw [e4] at ec
            dsimp only [Option.bind_some] at ec
            refine ⟨B, F0, _, F3, re2.grow g3, dd, rd, ρ4, e4, fun σ4 re4 hl4 h4 => ⟨?_, ?_⟩⟩
            · have := wipe_eq (vs := vs) hl4 h4
              rw [this]
              apply wipe_eq (wipe_length _ _)
              intro j hj
              exact wipe_at hj
            · have fin : ∀ F5 H5, Grow F2 H2 F5 H5 → Same F1 F5 ∧ Same H1 H5 ∧ (∀ a o, H1 a = some o → F5 a = F1 a) ∧ H5 Dd = some (.lst acc) ∧ F5 Dd = none ∧ RpAll K F5 acc ads := fun F5 H5 g5 =>
                ⟨s1.trans g5.ff, s2.trans g5.hh, fun a o q => (g5.nf a o (s2 _ _ q)).trans (nf a o q), g5.hh _ _ hDd, (g5.nf _ _ hDd).trans fD, ra.mono g5.ff⟩
              refine ⟨B, F0, ρ4, F3, re4, true, rfl, fun F5 H5 g5 => iteT ?_⟩
              cases e6 : fe ρ4 with
              | none => rw [e6] at ec; cases ec
              | some dy =>
                rw [e6] at ec
                dsimp only [Option.bind_some] at ec
                refine ⟨B, F0, ρ4, F5, re4.grow g5, dy, e6, fun vy F6 H6 g6 r6 => ?_, fun hx F6 H6 g6 => ?_⟩
                · have nx : ¬ isEx dy = true := fun z => by
                    rw [isEx_of z] at r6
                    exact rp_exD r6
                  rw [if_neg nx] at ec
                  obtain ⟨a1, a2, a3, a4, a5, a6⟩ := fin F6 H6 ((g3.trans g5).trans g6)
                  refine ⟨acc, a4, ?_, F6, acc ++ [vy], ads ++ [dy], (re2.grow ((g3.trans g5).trans g6)).aside a5 hB apart, a1, ?_, a3, upd_same, a5, a6.append (.cons r6 .nil), ?_, ?_⟩
                  · exact Nat.lt_of_le_of_lt (Nat.le_trans hacc (Nat.le_trans hi hlim)) lim_lt
                  · intro b o z
                    rw [upd_ne (ne_of_none z hD)]
                    exact a2 _ _ z
                  · rw [List.length_append]
                    exact Nat.succ_le_succ hacc
                  · rw [← ec, Option.map_map]
                    congr 1
                    funext z
                    exact (preX_cons ads dy z).symm
                · subst hx
                  rw [if_pos (show isEx exD = true from rfl)] at ec
                  cases ec
                  exact qx rfl F6 H6 (g1.trans ((Grow.trans ⟨s2, s1, re2.fh, nf⟩ g3).trans (g5.trans g6)))
      · have ei : i = ds.length := by omega
        subst ei
        rw [List.drop_length, compGoX, Option.map_some] at ec
        cases ec
        refine .inl ⟨w2, q _ rfl _ F2 H2 (g1.trans ⟨s2, s1, re2.fh, nf⟩) ⟨Dd, acc, ads, rfl, ?_, g1.hh.free hD, fD, hDd, Nat.le_trans hacc hlim, ra⟩⟩
        show PyData.list (ads ++ []) = .list ads
        rw [List.append_nil]
end
section
variable {X : Cx} {own : Nat → Bool} {W : L2.St → Hp → Prop} {C : Addr} {pos : Pos}
/-- [elt for tg in l], elt may raise C -/
theorem n_compX {Wx : WX} {elt tg l : Expr} {scope : Scope} {ow : List (Str × Nat)} {fi : It1} {fz : Bool} {gt : Tg} {fe : Ex} {vs : List Nat} (tk : Takes X Wx) (hc : X.calm = true) (hN : X.N.Nodup) (hi : PI X tg l (tI X.K own fz fi)) (ok : BlkOk X.N X.env.scope scope ow) (hvs : ow.map (·.2) = vs)
    (hg : ∀ (z : Shared) (J : Hp) (C : Addr) (cl : List (Str × Addr)) (fp : List Addr), PG (X.blk z J scope (compEnvC scope cl C X.env) fp) tg (tG X.K own gt vs))
    (he : ∀ (z : Shared) (J : Hp) (D : Addr) (cl : List (Str × Addr)) (fp : List Addr) (Wi : WB), PE ((X.blk z J scope (compEnvC scope cl D X.env) fp).wish (offX (X.blk z J scope (compEnvC scope cl D X.env) fp) Wi)) elt (tFX X.K own (fun _ J => Wi (.ref C) none J) fe))
    (hst : X.stack = X.env :: X.outer := by rfl) (hf : X.env.frame = some X.env.locals := by rfl) (hs : ∀ x, foldedSetIterable l X.env x = pure x := by intro _; rfl) :
    PE X (.ListComp elt [⟨tg, l, [], 0⟩] scope pos) (tNX X.K own (fun σ H => Wx (.ref C) none σ H) (xCompX fi vs gt fe)) := by
  subst hvs
  exact pe_weak (pe_lcX hst hf tk hc hN hi ok hg (fun _ _ _ _ _ => t_yes) he hs) fun _ _ _ h => compX_ok h
/-- a def that may raise C, called within the block -/
theorem e_calY {Y : Cx} {Wi : WB} {j k : Nat} {ps : List Str} {G : List D → Option D} {x : Str} {p : Pos} {e : Expr} {es : List Expr} {g : Rho → Option (List D)} (Cl : CalX Y.prog Y.w Y.K Y.mg Y.base j x ps C G) (hr : Room k Y.A) (ha : PA (Y.wish (offX Y Wi)) (e :: es) (tA Y.K own g)) (hjk : j ≤ k := by omega) (hg : Gl Y x := by rfl)
    (hdb : (x == ("__debug__" : Str)) = false := by decide) (he : starEach (e :: es) Y.env = (false, eval e Y.env) :: starEach es Y.env := by rfl) (hpl : (backTo pos (starEach es Y.env)).any (·.1) = false := by rfl) :
    PE (Y.wish (offX Y Wi)) (.Call (.Name x p) (e :: es) [] pos) (tFX Y.K own (fun _ J => Wi (.ref C) none J) (xCall G g)) := by
  obtain ⟨f, fd, F, m, kp, b⟩ := Cl.ex
  refine pe_weak (pe_callS (X := Y.wish (offX Y Wi)) (E := fun _ => Wi) F (hr.mono hjk) hg m kp b (fun σ => pass_off) ha hdb he hpl) ?_
  rintro σ H Q ⟨B, F0, ρ, F, re, d, e, q, w⟩
  obtain ⟨ds, e1, e2⟩ := xCall_some e
  refine ⟨B, F0, ρ, F, re, ds, e1, fun vs F1 H1 g1 r1 => ?_⟩
  exact ⟨F1, ds, d, g1.fh, r1, e2, fun v F2 H2 g2 r2 => q v F2 H2 (g1.trans g2) r2, fun hd F2 H2 g2 => w hd F2 H2 (g1.trans g2)⟩
/-- tuple([..]) -/
theorem e_tupX {a : Expr} {fa : Ex} {p : Pos} (ha : PE X a (tNX X.K own W fa)) (hm : X.mg "tuple" = none) (hg : Gl X "tuple" := by rfl) (hs : starEach [a] X.env = (false, eval a X.env) :: starEach [] X.env := by rfl) (hpl : (backTo pos (starEach [] X.env)).any (·.1) = false := by rfl) :
    PE X (.Call (.Name "tuple" p) [a] [] pos) (tFX X.K own W (x1 dTupX fa)) := by
  refine pe_weak (pe_callTy call_tuple_of hg hm (by decide +kernel) (pa_cons ha pa_nil hs) (by decide) (by decide) hs hpl) ?_
  rintro σ H Q ⟨B, F0, ρ, F, re, d, e, q, w⟩
  obtain ⟨x, e1, e2⟩ := x1_some e
  unfold dTupX at e2
  split at e2
  · next ds =>
    cases e2
    refine ⟨B, F0, ρ, F, re, _, e1, ?_, (fun h => by cases h), .inr ⟨ds, rfl⟩⟩
    rintro ds' hd v F1 H1 g1 ⟨b, vs, ds2, rfl, ed, h0, hf, hh, hl, ra⟩
    cases ed
    refine ⟨b, vs, rfl, .inl ⟨.of hh, fun t ht => ?_⟩⟩
    have g2 : Grow F1 H1 (upd F1 t (.tup vs)) (upd H1 t (.tup vs)) := .new g1.fh ht
    exact q _ _ _ (g1.trans g2) (.tup upd_same hl (ra.mono g2.ff))
  · cases e2
    exact ⟨B, F0, ρ, F, re, _, e1, (fun ds' h => by cases h), (fun _ => w rfl), .inl rfl⟩
  · cases e2
/-- (e, e'), e may raise -/
theorem e_tup2X {a b : Expr} {fa fb : Ex} {k : Nat} (ha : PE X a (tFX X.K own W fa)) (hb : PE X.nox b (tF X.K own fb)) (hs : starEach [a, b] X.env = (false, eval a X.env) :: starEach [b] X.env := by rfl) (hs2 : starEach [b] X.env = (false, eval b X.env) :: starEach [] X.env := by rfl) :
    PE X (.Tuple [a, b] k pos) (tFX X.K own W (xTupX fa fb)) := by
  refine pe_weak (pe_tup (pa_cons ha (pa_cons hb.nox pa_nil hs2) hs)) ?_
  rintro σ H Q ⟨B, F0, ρ, F, re, d, e, q, w⟩
  unfold xTupX at e
  cases e1 : fa ρ with
  | none => rw [e1] at e; cases e
  | some x =>
    rw [e1] at e
    dsimp only [Option.bind_some] at e
    refine ⟨B, F0, ρ, F, re, x, e1, fun v F1 H1 g1 r1 => ?_, fun hx F1 H1 g1 => ?_⟩
    · have nx : ¬ isEx x = true := fun z => by
        rw [isEx_of z] at r1
        exact rp_exD r1
      rw [if_neg nx] at e
      cases e2 : fb ρ with
      | none => rw [e2] at e; cases e
      | some y =>
        rw [e2] at e
        cases e
        refine ⟨B, F0, ρ, F1, re.grow g1, y, e2, fun u F2 H2 g2 r2 => ⟨show 2 ≤ sizeLine by decide, fun t ht => ?_⟩⟩
        have g3 : Grow F2 H2 (upd F2 t (.tup [v, u])) (upd H2 t (.tup [v, u])) := .new g2.fh ht
        exact q _ _ _ ((g1.trans g2).trans g3) (.tup upd_same (show 2 ≤ LIM by decide) (.cons ((Rp.mono (g2.ff.trans g3.ff) r1)) (.cons (Rp.mono g3.ff r2) .nil)))
    · subst hx
      rw [if_pos (show isEx exD = true from rfl)] at e
      cases e
      exact w rfl F1 H1 g1
/-- x.append(e), e may raise -/
theorem sx_app {e : Expr} {f : Ex} {i : Nat} {x : Str} {p2 ap cp : Pos} (he : PE X e (tFX X.K own W f)) (ho : own i = true := by rfl) (hN : X.N[i]? = some x := by rfl) (hv : Vis X.env.scope x := by first | exact Or.inl rfl | exact Or.inr (Or.inl rfl) | exact Or.inr (Or.inr rfl))
    (hd : (x == ("__debug__" : Str)) = false := by decide) (hcd : (x == ("__classdict__" : Str)) = false := by decide)
    (a1 : attributeBase (.Name x p2) "append" X.env (eval (.Name x p2) X.env) = eval (.Name x p2) X.env := by rfl)
    (a2 : ((((backTo cp (starEach [e] X.env)).all fun x => !x.fst) && (backToKw cp (keywordEach [] X.env)).all fun x => x.fst.isSome) && decide (([e].length + ([] : List Keyword).length + if ([] : List Keyword).isEmpty = true then 0 else 1) < 30)) = true := by rfl)
    (a3 : (ap.endLine == cp.line) = true := by rfl) (a4 : starEach [e] X.env = (false, eval e X.env) :: starEach [] X.env := by rfl) (a5 : ((backTo cp (starEach [] X.env)).any fun x => x.fst) = false := by rfl) :
    PS X (.Expr (.Call (.Attribute (.Name x p2) "append" ap) [e] [] cp) pos) (tX X.K own W (sAppX i f)) := by
  refine ps_weak (ps_expr (pe_bm PySem.F.plainAttrs_list PySem.F.slot_list_append PySem.F.type_list_append mt_append (pe_var (i := i) hN hv hd hcd) (pa_cons he pa_nil a4) a1 a2 a3 a4 a5)) ?_
  rintro Dn σ H ⟨B, F0, ρ, F, re, o, e, q, w⟩
  unfold sAppX at e
  split at e
  · next ds e1 =>
    cases e2 : f ρ with
    | none => rw [e2] at e; cases e
    | some d =>
      rw [e2] at e
      dsimp only [Option.bind_some] at e
      obtain ⟨a, vs, ds', h1, h2, h3, h4, h5, h6, h7⟩ := re.mineL e1 ho
      cases h1
      refine ⟨.ref a, h2, .inl ⟨rfl, vs, .of h3⟩, B, F0, ρ, F, re, d, e2, fun v F1 H1 g1 r1 => ?_, fun hx F1 H1 g1 => ?_⟩
      · have nx : ¬ isEx d = true := fun z => by
          rw [isEx_of z] at r1
          exact rp_exD r1
        rw [if_neg nx] at e
        split at e <;> cases e
        rename_i hl
        refine ⟨a, vs, v, rfl, rfl, g1.hh _ _ h3, ?_, ?_⟩
        · rw [h7.length]; exact Nat.lt_trans hl lim_lt
        · refine q σ F1 _ g1.ff ((re.grow g1).change ho e1 h2 ?_ ((h7.mono g1.ff).append (.cons r1 .nil)))
          rw [List.length_append, h7.length]
          exact hl
      · subst hx
        rw [if_pos (show isEx exD = true from rfl)] at e
        cases e
        exact w rfl _ σ F1 H1 (re.grow g1).blank
  · cases e
/-- for .., the body may raise -/
theorem sx_for {tg l : Expr} {body : List Stmt} {fi : It1} {gt : Tg} {ts : List Nat} {g : Sx} (hc : X.calm = true) (hi : PI X tg l (tI X.K own true fi)) (hg : PG X tg (tG X.K own gt ts)) (hb : PSs X body (tX X.K own W g)) (hp : PassesOwn (model X.prog X.w) X.A X.env X.xe := by exact passes_of rfl)
    (hs : ∀ x, foldedSetIterable l X.env x = pure x := by intro _; rfl) : PS X (.For tg l body [] pos) (tX X.K own W (sFor fi gt g)) := by
  refine ps_weak (ps_for hp hc hi hg hb hs) ?_
  rintro Dn σ H ⟨B, F0, ρ, F, re, o, e, q, w⟩
  unfold sFor at e
  cases e1 : fi ρ with
  | none => rw [e1] at e; cases e
  | some ds =>
    rw [e1] at e
    dsimp only [Option.bind_some] at e
    refine ⟨B, F0, ρ, F, re, ds, e1, fun J F1 H1 g1 wk => ?_⟩
    refine ⟨fun i m σ H => ∃ ρ F', m = ds.length - i ∧ i ≤ ds.length ∧ Same F1 F' ∧ RE X.K B F0 own ρ σ F' H ∧ forGo gt g (ds.drop i) ρ = some o, ⟨_, ρ, F1, rfl, Nat.zero_le _, .refl _, re.grow g1, e⟩, ?_⟩
    rintro i m σ2 H2 ⟨ρ2, F2, rfl, hi, s2, re2, e2⟩
    obtain ⟨w1, w2, w3⟩ := wk F2 H2 s2 re2.fh (fun z => nomatch z)
    by_cases hlt : i < ds.length
    · refine .inr ⟨w1 i hlt, fun σ' H' => ∃ ρ F', Same F1 F' ∧ RE X.K B F0 own ρ σ' F' H' ∧ forGo gt g (ds.drop (i + 1)) ρ = some o, ?_, ?_⟩
      · rintro σ' H' ⟨ρ', F', h1, h2, h3⟩
        exact ⟨ds.length - (i + 1), by omega, ρ', F', rfl, hlt, h1, h2, h3⟩
      · intro x H3 y
        obtain ⟨F3, d, g3, ed, rd⟩ := w3 i x H3 hlt y
        rw [List.drop_eq_getElem_cons hlt, forGo] at e2
        have ed' : ds[i] = d := by
          rw [List.getElem?_eq_getElem hlt] at ed
          exact Option.some.inj ed
        rw [ed'] at e2
        cases e4 : gt d ρ2 with
        | none => rw [e4] at e2; cases e2
        | some ρ4 =>
          rw [e4] at e2
          dsimp only [Option.bind_some] at e2
          refine ⟨B, F0, ρ2, F3, re2.grow g3, d, rd, ρ4, e4, fun σ4 re4 _ _ => ?_⟩
          have s3 : Same F1 F3 := s2.trans g3.ff
          cases e5 : g ρ4 with
          | none => rw [e5] at e2; cases e2
          | some o5 =>
            rw [e5] at e2
            refine ⟨B, F0, ρ4, F3, re4, o5, e5, ?_, fun hx => ?_⟩
            · cases o5 with
              | nx ρ5 => exact fun σ5 F5 H5 s5 r5 => ⟨ρ5, F5, s3.trans s5, r5, e2⟩
              | ct ρ5 => exact fun σ5 F5 H5 s5 r5 => ⟨ρ5, F5, s3.trans s5, r5, e2⟩
              | bk ρ5 =>
                cases e2
                exact fun σ5 F5 H5 s5 r5 => q σ5 F5 H5 ((g1.ff.trans s3).trans s5) r5
              | rt d5 =>
                cases e2
                exact q
            · subst hx
              cases e2
              exact w rfl
    · have ei : i = ds.length := by omega
      subst ei
      refine .inl ⟨w2, ?_⟩
      rw [List.drop_length, forGo] at e2
      cases e2
      exact q σ2 F2 H2 (g1.ff.trans s2) re2
end
end Tw

set_option Elab.async false
set_option linter.all false
set_option maxRecDepth 100000
namespace Tw
open PySem PySem.Spec PyProof.Rows L2

def b_l_drawn : Sx := (sSeq (sSet 2 (x2 dMod (x2 dMul (x2 dAdd (x2 dAdd (xVar 0) (x2 dMul (xC (.int 104729)) (xVar 1))) (xC (.int 17))) (xC (.int 69621))) (xC (.int 2147483647))))
    (sRet (x2 dMod (x2 dAdd (x2 dAdd (x2 dMul (xVar 2) (xVar 2)) (x2 dMul (xC (.int 3)) (xVar 2))) (xVar 1)) (xC (.int 2147483629)))))
def G_l_drawn : List D → Option D := runB 3 2 b_l_drawn
def b_l_ground : Sx := (sSeq (sSet 3 (x2 dAdd (xC (.int 1)) (x2 dMod (xVar 0) (xVar 1))))
    (sSeq (sSet 4 (xLst xNil))
    (sSeq (sSet 5 (x2 dIx (xTup (xCons (xC (.int 1)) (xCons (xC (.int 3)) (xCons (xC (.int 10)) (xCons (xC (.int 1001)) xNil))))) (x2 dMod (x2 dDiv (xVar 0) (xC (.int 8))) (xC (.int 4)))))
    (sSeq (sFor (iR2 (xC (.int 1)) (xVar 3)) (gNm 6)
    (sSeq (sSet 9 (xCall G_l_drawn (xCons (xVar 0) (xCons (xVar 6) xNil))))
    (sIf (xOr (x2 dGt (x2 dMod (x2 dDiv (xVar 0) (xC (.int 32))) (xC (.int 3))) (xC (.int 0))) (x2 dGt (x2 dMod (xVar 9) (xC (.int 4))) (xC (.int 0)))) (sApp 4 (xTup (xCons (x2 dMod (x2 dDiv (xVar 9) (xC (.int 4))) (xVar 6)) (xCons (xVar 6) (xCons (x2 dMod (x2 dDiv (xVar 9) (xC (.int 64))) (xVar 5)) xNil))))) sNil)))
    (sSeq (sFor (iR1 (x2 dMod (x2 dDiv (xVar 0) (xC (.int 96))) (x2 dAdd (xVar 2) (xC (.int 1))))) (gNm 7)
    (sSeq (sSet 9 (xCall G_l_drawn (xCons (xVar 0) (xCons (x2 dAdd (xC (.int 20)) (xVar 7)) xNil))))
    (sIf (xAnd (x2 dGt (xVar 3) (xC (.int 1))) (x2 dLt (xCall (on1 dLen) (g1 (xVar 4))) (xVar 2))) (sSeq (sSet 10 (x2 dMod (xVar 9) (xVar 3)))
    (sSeq (sSet 11 (x2 dMod (x2 dAdd (x2 dAdd (xVar 10) (xC (.int 1))) (x2 dMod (x2 dDiv (xVar 9) (xC (.int 8))) (x2 dSub (xVar 3) (xC (.int 1))))) (xVar 3)))
    (sApp 4 (xTup (xCons (xCall dMin2 (g2 (xVar 10) (xVar 11))) (xCons (xCall dMax2 (g2 (xVar 10) (xVar 11))) (xCons (x2 dMod (x2 dDiv (xVar 9) (xC (.int 64))) (xVar 5)) xNil))))))) sNil)))
    (sSeq (sSet 8 (x2 dMod (x2 dDiv (xVar 0) (xC (.int 2000))) (xC (.int 13))))
    (sRet (xTup (xCons (xVar 3) (xCons (xCall (on1 dTupOf) (g1 (x2 dAdd (xSl (xVar 4) (some (xVar 8)) none) (xSl (xVar 4) none (some (xVar 8)))))) xNil))))))))))
def G_l_ground : List D → Option D := runB 12 3 b_l_ground
def b_l_groups : Sx := (sSeq (sSet 2 (xLR (xVar 0)))
    (sSeq (sFor (iSeq (xVar 1)) (gTu [5, 6])
    (sSeq (sSet 7 (x2 dIx (xVar 2) (xVar 6)))
    (sSet 2 (xComp (iSeq (xVar 2)) [9] (gNm 9) xYes (x2 dIx (xLst (xCons (xVar 9) (xCons (x2 dIx (xVar 2) (xVar 5)) xNil))) (xCall (on1 dInt1) (g1 (x2 dEq (xVar 9) (xVar 7)))))))))
    (sSeq (sSet 3 (xLst xNil))
    (sSeq (sFor (iR1 (xVar 0)) (gNm 4)
    (sSeq (sSet 8 (xComp (iR1 (xVar 0)) [6] (gNm 6) (x2 dEq (x2 dIx (xVar 2) (xVar 6)) (x2 dIx (xVar 2) (xVar 4))) (xVar 6)))
    (sIf (x2 (dIn true) (xVar 8) (xVar 3)) (sApp 3 (xVar 8)) sNil)))
    (sRet (xCall (on1 dTupOf) (g1 (xComp (iSeq (xVar 3)) [8] (gNm 8) xYes (xCall (on1 dTupOf) (g1 (xVar 8)))))))))))
def G_l_groups : List D → Option D := runB 10 2 b_l_groups
def b_l_tree : Sx := (sSeq (sSet 2 (xLst xNil))
    (sSeq (sFor (iR1 (xCall (on1 dLen) (g1 (x2 dIx (xVar 0) (xC (.int 1)))))) (gNm 3)
    (sSeq (sSet 5 (x2 dMod (xCall G_l_drawn (xCons (xVar 1) (xCons (xVar 3) xNil))) (x2 dAdd (xVar 3) (xC (.int 1)))))
    (sSet 2 (x2 dAdd (x2 dAdd (xSl (xVar 2) none (some (xVar 5))) (xLst (xCons (xVar 3) xNil))) (xSl (xVar 2) (some (xVar 5)) none)))))
    (sSeq (sSet 4 (xLst xNil))
    (sSeq (sFor (iSeq (xVar 2)) (gNm 3)
    (sSeq (sSet 6 (xCall (on1 dLen) (g1 (xCall G_l_groups (xCons (x2 dIx (xVar 0) (xC (.int 0))) (xCons (xComp (iSeq (xVar 4)) [7] (gNm 7) xYes (xSl (x2 dIx (x2 dIx (xVar 0) (xC (.int 1))) (xVar 7)) none (some (xC (.int 2))))) xNil))))))
    (sIf (x2 dLt (xCall (on1 dLen) (g1 (xCall G_l_groups (xCons (x2 dIx (xVar 0) (xC (.int 0))) (xCons (xComp (iSeq (x2 dAdd (xVar 4) (xLst (xCons (xVar 3) xNil)))) [7] (gNm 7) xYes (xSl (x2 dIx (x2 dIx (xVar 0) (xC (.int 1))) (xVar 7)) none (some (xC (.int 2))))) xNil))))) (xVar 6)) (sApp 4 (xVar 3)) sNil)))
    (sRet (xCall (on1 dTupOf) (g1 (xCall (on1 dSorted) (g1 (xVar 4))))))))))
def G_l_tree : List D → Option D := runB 8 2 b_l_tree
def b_l_odd : Sx := (sSeq (sSet 1 (xLst (xCons (x1 dNeg (xC (.int 1))) (xCons (xC (.int 0)) (xCons (xC (.int 1)) (xCons (xC (.int 7)) (xCons (xC (.int 8)) (xCons (xC (.bool true)) (xCons (xC (.bool false)) (xCons (xC .none) (xCons (xC (.str "")) (xCons (xC (.str "0")) (xCons (xTup xNil) (xCons (xLst xNil) (xCons (xTup (xCons (xC (.int 0)) xNil)) (xCons (xTup (xCons (xC (.int 0)) (xCons (xC (.int 1)) xNil))) (xCons (xTup (xCons (xC (.int 1)) (xCons (xC (.int 1)) xNil))) (xCons (xTup (xCons (xC (.int 0)) (xCons (xC (.int 1)) (xCons (xC (.int 1001)) xNil)))) (xCons (xTup (xCons (xTup (xCons (xC (.int 0)) (xCons (xC (.int 1)) (xCons (xC (.int 2)) xNil)))) xNil)) xNil)))))))))))))))))))
    (sRet (x2 dIx (x2 dAdd (xVar 1) (xLst (xCons (xLst (xCons (xC (.int 0)) (xCons (xC (.int 1)) xNil))) (xCons (xTup (xCons (xC (.int 1)) (xCons (xTup xNil) xNil))) (xCons (xTup (xCons (xC (.int 0)) (xCons (xTup xNil) xNil))) (xCons (xTup (xCons (xC (.bool true)) xNil)) (xCons (xC (.int 2)) (xCons (xTup (xCons (xC (.int 0)) (xCons (xC (.int 1)) (xCons (xC (.int 2)) xNil)))) (xCons (xC (.int 1001)) (xCons (xTup (xCons (x1 dNeg (xC (.int 1))) xNil)) xNil)))))))))) (x2 dMod (xVar 0) (xC (.int 25))))))
def G_l_odd : List D → Option D := runB 2 1 b_l_odd
def b_l_spoilt (R : List D → Option D) : Sx := (sSeq (sIf (xAnd (x2 dGt (xVar 2) (xC (.int 0))) (xAnd (x1 (dIsi .tuple) (xVar 0)) (xAnd (x2 dGt (xCall (on1 dLen) (g1 (xVar 0))) (xC (.int 0))) (x2 dGt (x2 dMod (xVar 1) (xC (.int 6))) (xC (.int 0)))))) (sSeq (sSet 3 (x2 dMod (x2 dDiv (xVar 1) (xC (.int 6))) (xCall (on1 dLen) (g1 (xVar 0)))))
    (sSeq (sSet 4 (xCall R (xCons (x2 dIx (xVar 0) (xVar 3)) (xCons (x2 dDiv (xVar 1) (xC (.int 126))) (xCons (x2 dSub (xVar 2) (xC (.int 1))) xNil)))))
    (sRet (x2 dAdd (x2 dAdd (xSl (xVar 0) none (some (xVar 3))) (xTup (xCons (xVar 4) xNil))) (xSl (xVar 0) (some (x2 dAdd (xVar 3) (xC (.int 1)))) none))))) sNil)
    (sSeq (sIf (xAnd (x1 (dIsi .tuple) (xVar 0)) (xAnd (x2 dGt (xCall (on1 dLen) (g1 (xVar 0))) (xC (.int 0))) (x2 dEq (x2 dMod (x2 dDiv (xVar 1) (xC (.int 6))) (xC (.int 2))) (xC (.int 0))))) (sSeq (sSet 5 (xSl (x2 dMul (xVar 0) (xC (.int 23))) none (some (x2 dAdd (xC (.int 19)) (x2 dMod (x2 dDiv (xVar 1) (xC (.int 72))) (xC (.int 5)))))))
    (sRet (x2 dIx (xLst (xCons (xCall (on1 dListOf) (g1 (xVar 0))) (xCons (xSl (xVar 0) none (some (x1 dNeg (xC (.int 1))))) (xCons (x2 dAdd (xVar 0) (xSl (xVar 0) (some (x1 dNeg (xC (.int 1)))) none)) (xCons (xSl (xVar 0) (some (xC (.int 1))) none) (xCons (x1 dBackT (xVar 0)) (xCons (xVar 5) xNil))))))) (x2 dMod (x2 dDiv (xVar 1) (xC (.int 12))) (xC (.int 6)))))) sNil)
    (sSeq (sIf (xAnd (x1 (dIsi .int) (xVar 0)) (x2 dEq (x2 dMod (x2 dDiv (xVar 1) (xC (.int 6))) (xC (.int 2))) (xC (.int 0)))) (sRet (x2 dIx (xLst (xCons (xCall (on1 dStr1) (g1 (xVar 0))) (xCons (x1 dNeg (xVar 0)) (xCons (x2 dAdd (xVar 0) (xC (.int 1))) (xCons (x2 dEq (xVar 0) (xC (.int 1))) (xCons (x2 dAdd (xVar 0) (xC (.int 1000))) xNil)))))) (x2 dMod (x2 dDiv (xVar 1) (xC (.int 12))) (xC (.int 5))))) sNil)
    (sRet (xCall G_l_odd (xCons (x2 dDiv (xVar 1) (xC (.int 6))) xNil))))))
def H_l_spoilt : Nat → List D → Option D
  | 0 => fun _ => none
  | n + 1 => runB 6 3 (b_l_spoilt (H_l_spoilt n))
def G_l_spoilt : List D → Option D := H_l_spoilt 40
def b_l_maybe : Sx := (sSeq (sIf (x2 dEq (x2 dMod (xVar 1) (xC (.int 2))) (xC (.int 1))) (sRet (xCall G_l_spoilt (xCons (xVar 0) (xCons (x2 dDiv (xVar 1) (xC (.int 8))) (xCons (x2 dMod (x2 dDiv (xVar 1) (xC (.int 2))) (xC (.int 4))) xNil))))) sNil)
    (sRet (xVar 0)))
def G_l_maybe : List D → Option D := runB 2 2 b_l_maybe
def b_l_same : Sx := (sRet (xAnd (x1 (dIsi .bool) (xVar 0)) (x2 dEq (xVar 0) (xVar 1))))
def G_l_same : List D → Option D := runB 2 2 b_l_same
def b_l_cell_at : Sx := (sSeq (sIf (x2 dLt (xVar 1) (xCall (on1 dLen) (g1 (xVar 0)))) (sRet (x2 dIx (xVar 0) (xVar 1))) sNil)
    (sRet (xC (.int 0))))
def G_l_cell_at : List D → Option D := runB 2 2 b_l_cell_at
def b_l_mixed : Sx := (sSeq (sSet 2 (x2 dMod (x2 dMul (x2 dAdd (x2 dAdd (xCall G_l_cell_at (xCons (xVar 0) (xCons (xVar 1) xNil))) (x2 dMul (xC (.int 7919)) (xVar 1))) (xC (.int 1))) (xC (.int 48271))) (xC (.int 2147483647))))
    (sRet (x2 dMod (x2 dAdd (x2 dAdd (x2 dMul (xVar 2) (xVar 2)) (x2 dMul (xC (.int 7)) (xVar 2))) (xVar 1)) (xC (.int 2147483629)))))
def G_l_mixed : List D → Option D := runB 3 2 b_l_mixed
def b_groups_of : Sx := (sSeq (sSet 2 (xLR (xVar 0)))
    (sSeq (sFor (iSeq (xVar 1)) (gTu [3, 4])
    (sSeq (sSet 5 (xCall dMin2 (g2 (x2 dIx (xVar 2) (xVar 3)) (x2 dIx (xVar 2) (xVar 4)))))
    (sSeq (sSet 6 (xCall dMax2 (g2 (x2 dIx (xVar 2) (xVar 3)) (x2 dIx (xVar 2) (xVar 4)))))
    (sSet 2 (xComp (iSeq (xVar 2)) [7] (gNm 7) xYes (x2 dIx (xLst (xCons (xVar 7) (xCons (xVar 5) xNil))) (xCall (on1 dInt1) (g1 (x2 dEq (xVar 7) (xVar 6))))))))))
    (sRet (xCall (on1 dTupOf) (g1 (xComp (iSeq (x1 dSortSet (xVar 2))) [7] (gNm 7) xYes (xCall (on1 dTupOf) (g1 (xComp (iR1 (xVar 0)) [8] (gNm 8) (x2 dEq (x2 dIx (xVar 2) (xVar 8)) (xVar 7)) (xVar 8))))))))))
def G_groups_of : List D → Option D := runB 9 2 b_groups_of
def b_joined : Sx := (sRet (xCall G_groups_of (xCons (x2 dIx (xVar 0) (xC (.int 0))) (xCons (xComp (iSeq (xVar 1)) [2] (gNm 2) xYes (xSl (x2 dIx (x2 dIx (xVar 0) (xC (.int 1))) (xVar 2)) none (some (xC (.int 2))))) xNil))))
def G_joined : List D → Option D := runB 3 2 b_joined
def b_l_plain_tree : Sx := (sSeq (sSet 2 (xLst xNil))
    (sSeq (sFor (iR1 (xVar 1)) (gNm 3)
    (sSeq (sSet 5 (x2 dMod (xCall G_l_drawn (xCons (xVar 0) (xCons (x2 dAdd (xC (.int 30)) (xVar 3)) xNil))) (x2 dAdd (xVar 3) (xC (.int 1)))))
    (sSet 2 (x2 dAdd (x2 dAdd (xSl (xVar 2) none (some (xVar 5))) (xLst (xCons (xVar 3) xNil))) (xSl (xVar 2) (some (xVar 5)) none)))))
    (sSeq (sSet 4 (xLst xNil))
    (sSeq (sFor (iR2 (xC (.int 1)) (xVar 1)) (gNm 3)
    (sSeq (sSet 6 (xCall G_l_drawn (xCons (xVar 0) (xCons (xVar 3) xNil))))
    (sSeq (sSet 7 (x2 dIx (xTup (xCons (x2 dMod (xVar 6) (xVar 3)) (xCons (x2 dSub (xVar 3) (xC (.int 1))) (xCons (x2 dMod (xVar 6) (xCall dMin2 (g2 (xC (.int 2)) (xVar 3)))) (xCons (x2 dMod (xVar 6) (xVar 3)) xNil))))) (x2 dMod (x2 dDiv (xVar 0) (xC (.int 7))) (xC (.int 4)))))
    (sApp 4 (xTup (xCons (xCall dMin2 (g2 (x2 dIx (xVar 2) (xVar 3)) (x2 dIx (xVar 2) (xVar 7)))) (xCons (xCall dMax2 (g2 (x2 dIx (xVar 2) (xVar 3)) (x2 dIx (xVar 2) (xVar 7)))) xNil)))))))
    (sRet (xCall (on1 dTupOf) (g1 (xCall (on1 dSorted) (g1 (xVar 4))))))))))
def G_l_plain_tree : List D → Option D := runB 8 2 b_l_plain_tree
def b_is_number : Sx := (sRet (xAnd (x1 (dIsi .int) (xVar 0)) (xAnd (x1 dNot (x1 (dIsi .bool) (xVar 0))) (xChain dLe dLe (xVar 1) (xVar 0) (xVar 2)))))
def G_is_number : List D → Option D := runB 3 3 b_is_number
def b_is_pair : Sx := (sRet (xAnd (xCall G_is_number (xCons (xVar 0) (xCons (xC (.int 0)) (xCons (x2 dSub (xVar 2) (xC (.int 1))) xNil)))) (xAnd (xCall G_is_number (xCons (xVar 1) (xCons (xC (.int 0)) (xCons (x2 dSub (xVar 2) (xC (.int 1))) xNil)))) (x2 dLt (xVar 0) (xVar 1)))))
def G_is_pair : List D → Option D := runB 3 3 b_is_pair
def b_is_line : Sx := (sSeq (sIf (xOr (x1 dNot (x1 (dIsi .tuple) (xVar 0))) (xOr (x2 dNe (xCall (on1 dLen) (g1 (xVar 0))) (xC (.int 3))) (x1 dNot (xCall G_is_pair (xCons (x2 dIx (xVar 0) (xC (.int 0))) (xCons (x2 dIx (xVar 0) (xC (.int 1))) (xCons (xVar 1) xNil))))))) (sRet (xC (.bool false))) sNil)
    (sRet (xCall G_is_number (xCons (x2 dIx (xVar 0) (xC (.int 2))) (xCons (xC (.int 0)) (xCons (xC (.int 1000)) xNil))))))
def G_is_line : List D → Option D := runB 2 2 b_is_line
def b_is_ground : Sx := (sSeq (sIf (xOr (x1 dNot (x1 (dIsi .tuple) (xVar 0))) (xOr (x2 dNe (xCall (on1 dLen) (g1 (xVar 0))) (xC (.int 2))) (x1 dNot (xCall G_is_number (xCons (x2 dIx (xVar 0) (xC (.int 0))) (xCons (xC (.int 1)) (xCons (xC (.int 7)) xNil))))))) (sRet (xC (.bool false))) sNil)
    (sSeq (sSet 1 (x2 dIx (xVar 0) (xC (.int 1))))
    (sRet (xAnd (x1 (dIsi .tuple) (xVar 1)) (xAnd (x2 dLe (xCall (on1 dLen) (g1 (xVar 1))) (xC (.int 21))) (xCall (on1 dAll) (g1 (xComp (iSeq (xVar 1)) [2] (gNm 2) xYes (xCall G_is_line (xCons (xVar 2) (xCons (x2 dIx (xVar 0) (xC (.int 0))) xNil)))))))))))
def G_is_ground : List D → Option D := runB 3 1 b_is_ground
def b_l_number : Sx := (sRet (xAnd (x1 (dIsi .int) (xVar 0)) (xAnd (x1 dNot (x1 (dIsi .bool) (xVar 0))) (xChain dLe dLe (xVar 1) (xVar 0) (xVar 2)))))
def G_l_number : List D → Option D := runB 3 3 b_l_number
def b_l_is_ground : Sx := (sSeq (sIf (xOr (x1 dNot (x1 (dIsi .tuple) (xVar 0))) (xOr (x2 dNe (xCall (on1 dLen) (g1 (xVar 0))) (xC (.int 2))) (x1 dNot (xCall G_l_number (xCons (x2 dIx (xVar 0) (xC (.int 0))) (xCons (xC (.int 1)) (xCons (xC (.int 7)) xNil))))))) (sRet (xC (.bool false))) sNil)
    (sSeq (sIf (xOr (x1 dNot (x1 (dIsi .tuple) (x2 dIx (xVar 0) (xC (.int 1))))) (x2 dGt (xCall (on1 dLen) (g1 (x2 dIx (xVar 0) (xC (.int 1))))) (xC (.int 21)))) (sRet (xC (.bool false))) sNil)
    (sSeq (sFor (iSeq (x2 dIx (xVar 0) (xC (.int 1)))) (gNm 1)
    (sSeq (sIf (xOr (x1 dNot (x1 (dIsi .tuple) (xVar 1))) (xOr (x2 dNe (xCall (on1 dLen) (g1 (xVar 1))) (xC (.int 3))) (x1 dNot (xCall G_l_number (xCons (x2 dIx (xVar 1) (xC (.int 0))) (xCons (xC (.int 0)) (xCons (x2 dSub (x2 dIx (xVar 0) (xC (.int 0))) (xC (.int 1))) xNil))))))) (sRet (xC (.bool false))) sNil)
    (sIf (xOr (x1 dNot (xCall G_l_number (xCons (x2 dIx (xVar 1) (xC (.int 1))) (xCons (xC (.int 0)) (xCons (x2 dSub (x2 dIx (xVar 0) (xC (.int 0))) (xC (.int 1))) xNil))))) (xOr (x2 dGeA (x2 dIx (xVar 1) (xC (.int 0))) (x2 dIx (xVar 1) (xC (.int 1)))) (x1 dNot (xCall G_l_number (xCons (x2 dIx (xVar 1) (xC (.int 2))) (xCons (xC (.int 0)) (xCons (xC (.int 1000)) xNil))))))) (sRet (xC (.bool false))) sNil)))
    (sRet (xC (.bool true))))))
def G_l_is_ground : List D → Option D := runB 2 1 b_l_is_ground
def b_rises : Sx := (sRet (xCall (on1 dAll) (g1 (xComp (iZip2 (xSl (xVar 0) none (some (x1 dNeg (xC (.int 1))))) (xSl (xVar 0) (some (xC (.int 1))) none)) [1, 2] (gTu [1, 2]) xYes (x2 dLt (xVar 1) (xVar 2))))))
def G_rises : List D → Option D := runB 3 1 b_rises
def b_is_tree : Sx := (sSeq (sIf (xOr (x1 dNot (x1 (dIsi .tuple) (xVar 0))) (x2 dNe (xCall (on1 dLen) (g1 (xVar 0))) (x2 dSub (x2 dIx (xVar 1) (xC (.int 0))) (xC (.int 1))))) (sRet (xC (.bool false))) sNil)
    (sSeq (sIf (xOr (x1 dNot (xCall (on1 dAll) (g1 (xComp (iSeq (xVar 0)) [2] (gNm 2) xYes (xCall G_is_number (xCons (xVar 2) (xCons (xC (.int 0)) (xCons (x2 dSub (xCall (on1 dLen) (g1 (x2 dIx (xVar 1) (xC (.int 1))))) (xC (.int 1))) xNil)))))))) (x1 dNot (xCall G_rises (xCons (xVar 0) xNil)))) (sRet (xC (.bool false))) sNil)
    (sRet (x2 dEq (xCall (on1 dLen) (g1 (xCall G_joined (xCons (xVar 1) (xCons (xVar 0) xNil))))) (xC (.int 1))))))
def G_is_tree : List D → Option D := runB 3 2 b_is_tree
def b_l_is_tree : Sx := (sSeq (sIf (xOr (x1 dNot (x1 (dIsi .tuple) (xVar 0))) (x2 dNe (xCall (on1 dLen) (g1 (xVar 0))) (x2 dSub (x2 dIx (xVar 1) (xC (.int 0))) (xC (.int 1))))) (sRet (xC (.bool false))) sNil)
    (sSeq (sIf (x2 dNe (xComp (iSeq (xVar 0)) [2] (gNm 2) (x1 dNot (xCall G_l_number (xCons (xVar 2) (xCons (xC (.int 0)) (xCons (x2 dSub (xCall (on1 dLen) (g1 (x2 dIx (xVar 1) (xC (.int 1))))) (xC (.int 1))) xNil))))) (xVar 2)) (xLst xNil)) (sRet (xC (.bool false))) sNil)
    (sSeq (sIf (x2 dNe (xComp (iR2 (xC (.int 1)) (xCall (on1 dLen) (g1 (xVar 0)))) [3] (gNm 3) (x2 dGeA (x2 dIx (xVar 0) (x2 dSub (xVar 3) (xC (.int 1)))) (x2 dIx (xVar 0) (xVar 3))) (xVar 3)) (xLst xNil)) (sRet (xC (.bool false))) sNil)
    (sRet (x2 dEq (xCall (on1 dLen) (g1 (xCall G_l_groups (xCons (x2 dIx (xVar 1) (xC (.int 0))) (xCons (xComp (iSeq (xVar 0)) [2] (gNm 2) xYes (xSl (x2 dIx (x2 dIx (xVar 1) (xC (.int 1))) (xVar 2)) none (some (xC (.int 2))))) xNil))))) (xC (.int 1)))))))
def G_l_is_tree : List D → Option D := runB 4 2 b_l_is_tree
def b_is_plain_tree : Sx := (sSeq (sIf (xOr (x1 dNot (x1 (dIsi .tuple) (xVar 0))) (x2 dNe (xCall (on1 dLen) (g1 (xVar 0))) (x2 dSub (xVar 1) (xC (.int 1))))) (sRet (xC (.bool false))) sNil)
    (sSeq (sFor (iSeq (xVar 0)) (gNm 2)
    (sIf (xOr (x1 dNot (x1 (dIsi .tuple) (xVar 2))) (xOr (x2 dNe (xCall (on1 dLen) (g1 (xVar 2))) (xC (.int 2))) (x1 dNot (xCall G_is_pair (xCons (x2 dIx (xVar 2) (xC (.int 0))) (xCons (x2 dIx (xVar 2) (xC (.int 1))) (xCons (xVar 1) xNil))))))) (sRet (xC (.bool false))) sNil))
    (sRet (xAnd (xCall G_rises (xCons (xVar 0) xNil)) (x2 dEq (xCall (on1 dLen) (g1 (xCall G_groups_of (xCons (xVar 1) (xCons (xVar 0) xNil))))) (xC (.int 1)))))))
def G_is_plain_tree : List D → Option D := runB 3 2 b_is_plain_tree
def b_l_is_plain_tree : Sx := (sSeq (sIf (xOr (x1 dNot (x1 (dIsi .tuple) (xVar 0))) (x2 dNe (xCall (on1 dLen) (g1 (xVar 0))) (x2 dSub (xVar 1) (xC (.int 1))))) (sRet (xC (.bool false))) sNil)
    (sSeq (sFor (iSeq (xVar 0)) (gNm 2)
    (sSeq (sIf (xOr (x1 dNot (x1 (dIsi .tuple) (xVar 2))) (xOr (x2 dNe (xCall (on1 dLen) (g1 (xVar 2))) (xC (.int 2))) (x1 dNot (xCall G_l_number (xCons (x2 dIx (xVar 2) (xC (.int 0))) (xCons (xC (.int 0)) (xCons (x2 dSub (xVar 1) (xC (.int 1))) xNil))))))) (sRet (xC (.bool false))) sNil)
    (sIf (xOr (x1 dNot (xCall G_l_number (xCons (x2 dIx (xVar 2) (xC (.int 1))) (xCons (xC (.int 0)) (xCons (x2 dSub (xVar 1) (xC (.int 1))) xNil))))) (x2 dGeA (x2 dIx (xVar 2) (xC (.int 0))) (x2 dIx (xVar 2) (xC (.int 1))))) (sRet (xC (.bool false))) sNil)))
    (sSeq (sIf (x2 dNe (xComp (iR2 (xC (.int 1)) (xCall (on1 dLen) (g1 (xVar 0)))) [3] (gNm 3) (x2 dGeA (x2 dIx (xVar 0) (x2 dSub (xVar 3) (xC (.int 1)))) (x2 dIx (xVar 0) (xVar 3))) (xVar 3)) (xLst xNil)) (sRet (xC (.bool false))) sNil)
    (sRet (x2 dEq (xCall (on1 dLen) (g1 (xCall G_l_groups (xCons (xVar 1) (xCons (xVar 0) xNil))))) (xC (.int 1)))))))
def G_l_is_plain_tree : List D → Option D := runB 4 2 b_l_is_plain_tree
def b_ground_text : Sx := (sSeq (sSet 1 (xLst (xCons (xC (.str "spots")) (xCons (xCall (on1 dStr1) (g1 (x2 dIx (xVar 0) (xC (.int 0))))) xNil))))
    (sSeq (sFor (iSeq (x2 dIx (xVar 0) (xC (.int 1)))) (gNm 2)
    (sExt 1 (x2 dAdd (xLst (xCons (xC (.str "line")) xNil)) (xComp (iSeq (xVar 2)) [3] (gNm 3) xYes (xCall (on1 dStr1) (g1 (xVar 3)))))))
    (sRet (x1 (dJoin (.str " ")) (xVar 1)))))
def G_ground_text : List D → Option D := runB 4 1 b_ground_text
def b_written : Sx := (sSeq (sIf (x1 dNot (xCall G_is_ground (xCons (xVar 0) xNil))) sEx sNil)
    (sRet (xCall G_ground_text (xCons (xVar 0) xNil))))
def G_written : List D → Option D := runB 1 1 b_written
def b_l_refused_by_base : Sx := (sSeq (sTry (sExpX (xCall G_written (xCons (xVar 0) xNil))) (.bool true))
    (sRet (xC (.bool false))))
def G_l_refused_by_base : List D → Option D := runB 3 1 b_l_refused_by_base
def b_l_refused : Sx := (sSeq (sTry (sExpX (xCall G_written (xCons (xVar 0) xNil))) (.bool true))
    (sRet (xC (.bool false))))
def G_l_refused : List D → Option D := runB 1 1 b_l_refused
def b_l_written : Sx := (sSeq (sSet 1 (x2 dAdd (xC (.str "spots ")) (xCall (on1 dStr1) (g1 (x2 dIx (xVar 0) (xC (.int 0)))))))
    (sSeq (sFor (iSeq (x2 dIx (xVar 0) (xC (.int 1)))) (gTu [2, 3, 4])
    (sSet 1 (x2 dAdd (x2 dAdd (x2 dAdd (x2 dAdd (x2 dAdd (x2 dAdd (xVar 1) (xC (.str " line "))) (xCall (on1 dStr1) (g1 (xVar 2)))) (xC (.str " "))) (xCall (on1 dStr1) (g1 (xVar 3)))) (xC (.str " "))) (xCall (on1 dStr1) (g1 (xVar 4))))))
    (sRet (xVar 1))))
def G_l_written : List D → Option D := runB 5 1 b_l_written
def b_number_of : Sx := (sSeq (sIf (xOr (x1 dNot (xChain dLe dLe (xC (.int 1)) (xCall (on1 dLen) (g1 (xVar 0))) (xC (.int 4)))) (x1 dNot (xCall (on1 dAll) (g1 (xComp (iStrD (xVar 0)) [1] (gNm 1) xYes (x2 (dInS false) (xVar 1) (xC (.str "0123456789")))))))) sEx sNil)
    (sRet (xCall (on1 dIntS) (g1 (xVar 0)))))
def G_number_of : List D → Option D := runB 2 1 b_number_of
def b_read : Sx := (sSeq (sIf (x1 dNot (x1 (dIsi .str) (xVar 0))) sEx sNil)
    (sSeq (sSet 1 (x1 (dSplit " ") (xVar 0)))
    (sSeq (sIf (xOr (x2 dNe (x2 dMod (xCall (on1 dLen) (g1 (xVar 1))) (xC (.int 4))) (xC (.int 2))) (xOr (x2 dNe (x2 dIx (xVar 1) (xC (.int 0))) (xC (.str "spots"))) (x1 dNot (xCall (on1 dAll) (g1 (xComp (iSeq (x1 dPick (xVar 1))) [5] (gNm 5) xYes (x2 dEq (xVar 5) (xC (.str "line"))))))))) sEx sNil)
    (sSeq (sSet 2 (xLst xNil))
    (sSeq (sFor (iR24 (xC (.int 2)) (xCall (on1 dLen) (g1 (xVar 1))) (xC (.int 4))) (gNm 3)
    (sAppX 2 (x1 dTupX (xCompX (iSeq (xSl (xVar 1) (some (x2 dAdd (xVar 3) (xC (.int 1)))) (some (x2 dAdd (xVar 3) (xC (.int 4)))))) [5] (gNm 5) (xCall G_number_of (xCons (xVar 5) xNil))))))
    (sSeq (sSetX 4 (xTupX (xCall G_number_of (xCons (x2 dIx (xVar 1) (xC (.int 1))) xNil)) (xCall (on1 dTupOf) (g1 (xVar 2)))))
    (sSeq (sIf (xOr (x1 dNot (xCall G_is_ground (xCons (xVar 4) xNil))) (x2 dNe (xCall G_ground_text (xCons (xVar 4) xNil)) (xVar 0))) sEx sNil)
    (sRet (xVar 4)))))))))
def G_read : List D → Option D := runB 6 1 b_read
def b_l_found : Sx := (sSeq (sTry (sSetX 2 (xCall G_read (xCons (xVar 0) xNil))) .none)
    (sRet (x2 dIx (xLst (xCons (xVar 2) (xCons (xTup xNil) xNil))) (xCall (on1 dInt1) (g1 (x2 (dIs false) (xVar 2) (xC .none)))))))
def G_l_found : List D → Option D := runB 4 1 b_l_found
def b_l_changed : Sx := (sSeq (sSet 2 (x1 (dSplit " ") (xVar 0)))
    (sSeq (sSet 3 (x2 dMod (x2 dDiv (xVar 1) (xC (.int 8))) (xCall (on1 dLen) (g1 (xVar 2)))))
    (sSeq (sSet 4 (x2 dMod (x2 dDiv (xVar 1) (xC (.int 8))) (x2 dAdd (xCall (on1 dLen) (g1 (xVar 0))) (xC (.int 1)))))
    (sSeq (sSet 5 (x2 dMod (xVar 1) (xC (.int 8))))
    (sSeq (sIf (x2 dEq (xVar 5) (xC (.int 0))) (sRet (x2 dAdd (xSl (xVar 0) none (some (xVar 4))) (xSl (xVar 0) (some (x2 dAdd (xVar 4) (xC (.int 1)))) none))) sNil)
    (sSeq (sIf (x2 dLt (xVar 5) (xC (.int 3))) (sSeq (sSet 7 (x2 dIx (xC (.str " 0123456789lin-+_\n\t")) (x2 dMod (x2 dDiv (xVar 1) (xC (.int 7))) (xC (.int 19)))))
    (sRet (x2 dAdd (x2 dAdd (xSl (xVar 0) none (some (xVar 4))) (xVar 7)) (xSl (xVar 0) (some (x2 dSub (x2 dAdd (xVar 4) (xVar 5)) (xC (.int 1)))) none)))) sNil)
    (sSeq (sIf (x2 dEq (xVar 5) (xC (.int 3))) (sRet (x1 (dJoin (.str " ")) (x2 dAdd (xSl (xVar 2) none (some (xVar 3))) (xSl (xVar 2) (some (x2 dAdd (xVar 3) (xC (.int 1)))) none)))) sNil)
    (sSeq (sIf (x2 dEq (xVar 5) (xC (.int 4))) (sRet (x1 (dJoin (.str " ")) (x2 dAdd (x2 dAdd (xSl (xVar 2) none (some (xVar 3))) (xSl (xVar 2) (some (xVar 3)) (some (x2 dAdd (xVar 3) (xC (.int 1)))))) (xSl (xVar 2) (some (xVar 3)) none)))) sNil)
    (sSeq (sIf (x2 dEq (xVar 5) (xC (.int 5))) (sSeq (sSet 8 (x2 dAdd (xSl (xVar 2) (some (x2 dAdd (xVar 3) (xC (.int 1)))) (some (x2 dAdd (xVar 3) (xC (.int 2))))) (xSl (xVar 2) (some (xVar 3)) (some (x2 dAdd (xVar 3) (xC (.int 1)))))))
    (sRet (x1 (dJoin (.str " ")) (x2 dAdd (x2 dAdd (xSl (xVar 2) none (some (xVar 3))) (xVar 8)) (xSl (xVar 2) (some (x2 dAdd (xVar 3) (xC (.int 2)))) none))))) sNil)
    (sSeq (sSet 6 (x1 (dSplit " ") (xC (.str "spots line 0 1 2 3 7 8 1000 1001 00 -1"))))
    (sRet (x1 (dJoin (.str " ")) (x2 dAdd (x2 dAdd (xSl (xVar 2) none (some (xVar 3))) (xLst (xCons (x2 dIx (xVar 6) (x2 dMod (x2 dDiv (xVar 1) (xC (.int 7))) (xC (.int 12)))) xNil))) (xSl (xVar 2) (some (x2 dAdd (xVar 3) (xC (.int 1)))) none))))))))))))))
def G_l_changed : List D → Option D := runB 9 2 b_l_changed
def b_l_number_of : Sx := (sSeq (sIf (xOr (x1 dNot (xChain dLe dLe (xC (.int 1)) (xCall (on1 dLen) (g1 (xVar 0))) (xVar 1))) (x2 dNe (xComp (iStrD (xVar 0)) [2] (gNm 2) (x2 dLt (x2 dFind (xC (.str "0123456789")) (xVar 2)) (xC (.int 0))) (xVar 2)) (xLst xNil))) (sRet (xC .none)) sNil)
    (sRet (xCall (on1 dIntS) (g1 (xVar 0)))))
def G_l_number_of : List D → Option D := runB 3 2 b_l_number_of
def b_l_due : Sx := (sSeq (sSet 1 (x1 (dSplit " ") (xVar 0)))
    (sSeq (sIf (xOr (x2 dNe (x2 dMod (xCall (on1 dLen) (g1 (xVar 1))) (xC (.int 4))) (xC (.int 2))) (x2 dNe (x2 dIx (xVar 1) (xC (.int 0))) (xC (.str "spots")))) (sRet (xC .none)) sNil)
    (sSeq (sSet 2 (xTup xNil))
    (sSeq (sFor (iR24 (xC (.int 2)) (xCall (on1 dLen) (g1 (xVar 1))) (xC (.int 4))) (gNm 3)
    (sSeq (sSet 5 (xCall (on1 dTupOf) (g1 (xComp (iSeq (xSl (xVar 1) (some (x2 dAdd (xVar 3) (xC (.int 1)))) (some (x2 dAdd (xVar 3) (xC (.int 4)))))) [6] (gNm 6) xYes (xCall G_l_number_of (xCons (xVar 6) (xCons (xC (.int 4)) xNil)))))))
    (sSeq (sIf (xOr (x2 dNe (x2 dIx (xVar 1) (xVar 3)) (xC (.str "line"))) (x2 (dIn false) (xC .none) (xVar 5))) (sRet (xC .none)) sNil)
    (sSet 2 (x2 dAdd (xVar 2) (xTup (xCons (xVar 5) xNil)))))))
    (sSeq (sSet 4 (xTup (xCons (xCall G_l_number_of (xCons (x2 dIx (xVar 1) (xC (.int 1))) (xCons (xC (.int 1)) xNil))) (xCons (xVar 2) xNil))))
    (sSeq (sIf (xOr (x1 dNot (xCall G_l_is_ground (xCons (xVar 4) xNil))) (x2 dNe (xCall G_l_written (xCons (xVar 4) xNil)) (xVar 0))) (sRet (xC .none)) sNil)
    (sRet (xVar 4))))))))
def G_l_due : List D → Option D := runB 7 1 b_l_due
def b_l_some (R : List D → Option D) : Sx := (sSeq (sIf (x2 dEq (xVar 1) (xC (.int 0))) (sRet (xLst (xCons (xTup xNil) xNil))) sNil)
    (sSeq (sSet 2 (xLst xNil))
    (sSeq (sFor (iR1 (xCall (on1 dLen) (g1 (xVar 0)))) (gNm 3)
    (sSet 2 (x2 dAdd (xVar 2) (xComp (iSeq (xCall R (xCons (xSl (xVar 0) (some (x2 dAdd (xVar 3) (xC (.int 1)))) none) (xCons (x2 dSub (xVar 1) (xC (.int 1))) xNil)))) [4] (gNm 4) xYes (x2 dAdd (xTup (xCons (x2 dIx (xVar 0) (xVar 3)) xNil)) (xVar 4))))))
    (sRet (xVar 2)))))
def H_l_some : Nat → List D → Option D
  | 0 => fun _ => none
  | n + 1 => runB 5 2 (b_l_some (H_l_some n))
def G_l_some : List D → Option D := H_l_some 40
def b_l_trees : Sx := (sSeq (sSet 1 (xCall G_l_some (xCons (xLR (xCall (on1 dLen) (g1 (x2 dIx (xVar 0) (xC (.int 1)))))) (xCons (x2 dSub (x2 dIx (xVar 0) (xC (.int 0))) (xC (.int 1))) xNil))))
    (sRet (xComp (iSeq (xVar 1)) [2] (gNm 2) (x2 dEq (xCall (on1 dLen) (g1 (xCall G_l_groups (xCons (x2 dIx (xVar 0) (xC (.int 0))) (xCons (xComp (iSeq (xVar 2)) [3] (gNm 3) xYes (xSl (x2 dIx (x2 dIx (xVar 0) (xC (.int 1))) (xVar 3)) none (some (xC (.int 2))))) xNil))))) (xC (.int 1))) (xVar 2))))
def G_l_trees : List D → Option D := runB 4 1 b_l_trees
def b_some_of (R : List D → Option D) : Sx := (sSeq (sIf (x2 dEq (xVar 1) (xC (.int 0))) (sRet (xLst (xCons (xTup xNil) xNil))) sNil)
    (sSeq (sSet 2 (xLst xNil))
    (sSeq (sFor (iR1 (xCall (on1 dLen) (g1 (xVar 0)))) (gNm 3)
    (sExt 2 (xComp (iSeq (xCall R (xCons (xSl (xVar 0) (some (x2 dAdd (xVar 3) (xC (.int 1)))) none) (xCons (x2 dSub (xVar 1) (xC (.int 1))) xNil)))) [4] (gNm 4) xYes (x2 dAdd (xTup (xCons (x2 dIx (xVar 0) (xVar 3)) xNil)) (xVar 4)))))
    (sRet (xVar 2)))))
def H_some_of : Nat → List D → Option D
  | 0 => fun _ => none
  | n + 1 => runB 5 2 (b_some_of (H_some_of n))
def G_some_of : List D → Option D := H_some_of 40
def b_trees : Sx := (sRet (xCall (on1 dTupOf) (g1 (xComp (iSeq (xCall G_some_of (xCons (xLR (xCall (on1 dLen) (g1 (x2 dIx (xVar 0) (xC (.int 1)))))) (xCons (x2 dSub (x2 dIx (xVar 0) (xC (.int 0))) (xC (.int 1))) xNil)))) [1] (gNm 1) (xCall G_is_tree (xCons (xVar 1) (xCons (xVar 0) xNil))) (xVar 1)))))
def G_trees : List D → Option D := runB 2 1 b_trees
def b_volume : Sx := (sSeq (sSet 1 (xC (.int 1)))
    (sSeq (sFor (iR1 (xCall (on1 dLen) (g1 (xVar 0)))) (gNm 2)
    (sSeq (sIf (x2 dEq (x2 dIx (x2 dIx (xVar 0) (xVar 2)) (xVar 2)) (xC (.int 0))) (sRet (xC (.int 0))) sNil)
    (sSeq (sFor (iR2 (x2 dAdd (xVar 2) (xC (.int 1))) (xCall (on1 dLen) (g1 (xVar 0)))) (gNm 3)
    (sSeq (sSet 4 (x2 dIx (x2 dIx (xVar 0) (xVar 3)) (xVar 2)))
    (sPut 0 (xVar 3) (xComp (iZip2 (x2 dIx (xVar 0) (xVar 3)) (x2 dIx (xVar 0) (xVar 2))) [5, 6] (gTu [5, 6]) xYes (x2 dDiv (x2 dSub (x2 dMul (x2 dIx (x2 dIx (xVar 0) (xVar 2)) (xVar 2)) (xVar 5)) (x2 dMul (xVar 4) (xVar 6))) (xVar 1))))))
    (sSet 1 (x2 dIx (x2 dIx (xVar 0) (xVar 2)) (xVar 2))))))
    (sRet (xVar 1))))
def G_volume : List D → Option D := runB 7 1 b_volume
def b_count_trees : Sx := (sRet (xCall G_volume (g1 (xCall G_table_of (xCons (xVar 0) xNil)))))
def G_count_trees : List D → Option D := runB 1 1 b_count_trees
def b_without : Sx := (sRet (xTup (xCons (x2 dIx (xVar 0) (xC (.int 0))) (xCons (x2 dAdd (xSl (x2 dIx (xVar 0) (xC (.int 1))) none (some (xVar 1))) (xSl (x2 dIx (xVar 0) (xC (.int 1))) (some (x2 dAdd (xVar 1) (xC (.int 1)))) none)) xNil))))
def G_without : List D → Option D := runB 2 2 b_without
def b_together : Sx := (sSeq (sAsg (gTu [4, 5, 6]) (x2 dIx (x2 dIx (xVar 0) (xC (.int 1))) (xVar 1)))
    (sSeq (sSet 2 (xComp (iR1 (x2 dIx (xVar 0) (xC (.int 0)))) [10] (gNm 10) xYes (x2 dSub (xVar 10) (xCall (on1 dInt1) (g1 (x2 dGt (xVar 10) (xVar 5)))))))
    (sSeq (sPut 2 (xVar 5) (xVar 4))
    (sSeq (sSet 3 (xLst xNil))
    (sSeq (sFor (iSeq (x2 dIx (xVar 0) (xC (.int 1)))) (gTu [7, 8, 9])
    (sIf (x2 dNe (x2 dIx (xVar 2) (xVar 7)) (x2 dIx (xVar 2) (xVar 8))) (sApp 3 (xTup (xCons (xCall dMin2 (g2 (x2 dIx (xVar 2) (xVar 7)) (x2 dIx (xVar 2) (xVar 8)))) (xCons (xCall dMax2 (g2 (x2 dIx (xVar 2) (xVar 7)) (x2 dIx (xVar 2) (xVar 8)))) (xCons (xVar 9) xNil))))) sNil))
    (sRet (xTup (xCons (x2 dSub (x2 dIx (xVar 0) (xC (.int 0))) (xC (.int 1))) (xCons (xCall (on1 dTupOf) (g1 (xVar 3))) xNil)))))))))
def G_together : List D → Option D := runB 11 2 b_together
def b_l_without : Sx := (sRet (xTup (xCons (x2 dIx (xVar 0) (xC (.int 0))) (xCons (xCall (on1 dTupOf) (g1 (xComp (iEnumT (x2 dIx (xVar 0) (xC (.int 1)))) [2, 3] (gTu [2, 3]) (x2 dNe (xVar 2) (xVar 1)) (xVar 3)))) xNil))))
def G_l_without : List D → Option D := runB 4 2 b_l_without
def b_l_together : Sx := (sSeq (sAsg (gTu [5, 6, 7]) (x2 dIx (x2 dIx (xVar 0) (xC (.int 1))) (xVar 1)))
    (sSeq (sSet 2 (xLst xNil))
    (sSeq (sFor (iR1 (x2 dIx (xVar 0) (xC (.int 0)))) (gNm 3)
    (sIf (x2 dEq (xVar 3) (xVar 6)) (sApp 2 (xVar 5)) (sApp 2 (x2 dSub (xVar 3) (xCall (on1 dInt1) (g1 (x2 dGt (xVar 3) (xVar 6))))))))
    (sSeq (sSet 4 (xLst xNil))
    (sSeq (sFor (iSeq (x2 dIx (xVar 0) (xC (.int 1)))) (gTu [8, 9, 10])
    (sSeq (sSet 11 (x2 dIx (xVar 2) (xVar 8)))
    (sSeq (sSet 12 (x2 dIx (xVar 2) (xVar 9)))
    (sIf (x2 dNe (xVar 11) (xVar 12)) (sApp 4 (xTup (xCons (xCall dMin2 (g2 (xVar 11) (xVar 12))) (xCons (xCall dMax2 (g2 (xVar 11) (xVar 12))) (xCons (xVar 10) xNil))))) sNil))))
    (sRet (xTup (xCons (x2 dSub (x2 dIx (xVar 0) (xC (.int 0))) (xC (.int 1))) (xCons (xCall (on1 dTupOf) (g1 (xVar 4))) xNil)))))))))
def G_l_together : List D → Option D := runB 13 2 b_l_together
def b_bridges : Sx := (sSeq (sSet 1 (xLR (xCall (on1 dLen) (g1 (x2 dIx (xVar 0) (xC (.int 1)))))))
    (sSeq (sSet 2 (xCall (on1 dLen) (g1 (xCall G_joined (xCons (xVar 0) (xCons (xVar 1) xNil))))))
    (sRet (xCall (on1 dTupOf) (g1 (xComp (iSeq (xVar 1)) [3] (gNm 3) (x2 dGt (xCall (on1 dLen) (g1 (xCall G_joined (xCons (xVar 0) (xCons (xComp (iSeq (xVar 1)) [4] (gNm 4) (x2 dNe (xVar 4) (xVar 3)) (xVar 4)) xNil))))) (xVar 2)) (xVar 3)))))))
def G_bridges : List D → Option D := runB 5 1 b_bridges
def b_way_from (R : List D → Option D) : Sx := (sSeq (sIf (x2 dEq (xVar 2) (xVar 3)) (sRet (xTup xNil)) sNil)
    (sSeq (sFor (iSeq (xVar 1)) (gNm 5)
    (sIf (xAnd (x2 dNe (xVar 5) (xVar 4)) (x2 (dIn false) (xVar 2) (xSl (x2 dIx (x2 dIx (xVar 0) (xC (.int 1))) (xVar 5)) none (some (xC (.int 2)))))) (sSeq (sAsg (gTu [7, 8, 9]) (x2 dIx (x2 dIx (xVar 0) (xC (.int 1))) (xVar 5)))
    (sSeq (sSet 6 (xCall R (xCons (xVar 0) (xCons (xVar 1) (xCons (x2 dSub (x2 dAdd (xVar 7) (xVar 8)) (xVar 2)) (xCons (xVar 3) (xCons (xVar 5) xNil)))))))
    (sIf (x2 (dIs true) (xVar 6) (xC .none)) (sRet (x2 dAdd (xTup (xCons (xVar 5) xNil)) (xVar 6))) sNil))) sNil))
    (sRet (xC .none))))
def H_way_from : Nat → List D → Option D
  | 0 => fun _ => none
  | n + 1 => runB 10 5 (b_way_from (H_way_from n))
def G_way_from : List D → Option D := H_way_from 40
def b_way : Sx := (sRet (xCall G_way_from (xCons (xVar 0) (xCons (xVar 1) (xCons (xVar 2) (xCons (xVar 3) (xCons (x1 dNeg (xC (.int 1))) xNil)))))))
def G_way : List D → Option D := runB 4 4 b_way
def b_swaps : Sx := (sRet (xCall (on1 dTupOf) (g1 (xCall (on1 dSortedA) (g1 (xCall G_way (xCons (xVar 0) (xCons (xVar 1) (xCons (x2 dIx (x2 dIx (x2 dIx (xVar 0) (xC (.int 1))) (xVar 2)) (xC (.int 0))) (xCons (x2 dIx (x2 dIx (x2 dIx (xVar 0) (xC (.int 1))) (xVar 2)) (xC (.int 1))) xNil))))))))))
def G_swaps : List D → Option D := runB 3 3 b_swaps
def b_l_walks : Sx := (sSeq (sSet 5 (xVar 2))
    (sSeq (sFor (iSeq (xVar 4)) (gNm 6)
    (sSeq (sIf (xOr (x1 dNot (xCall G_l_number (xCons (xVar 6) (xCons (xC (.int 0)) (xCons (x2 dSub (xCall (on1 dLen) (g1 (x2 dIx (xVar 0) (xC (.int 1))))) (xC (.int 1))) xNil))))) (xOr (x2 (dIn true) (xVar 6) (xVar 1)) (x2 (dIn true) (xVar 5) (xSl (x2 dIx (x2 dIx (xVar 0) (xC (.int 1))) (xVar 6)) none (some (xC (.int 2))))))) (sRet (xC (.bool false))) sNil)
    (sSet 5 (x2 dSub (x2 dAdd (x2 dIx (x2 dIx (x2 dIx (xVar 0) (xC (.int 1))) (xVar 6)) (xC (.int 0))) (x2 dIx (x2 dIx (x2 dIx (xVar 0) (xC (.int 1))) (xVar 6)) (xC (.int 1)))) (xVar 5)))))
    (sRet (xAnd (x2 dEq (xVar 5) (xVar 3)) (x2 dEq (x1 dLenSet (xVar 4)) (xCall (on1 dLen) (g1 (xVar 4))))))))
def G_l_walks : List D → Option D := runB 7 5 b_l_walks
def b_l_exchanged : Sx := (sRet (xCall (on1 dTupOf) (g1 (xCall (on1 dSorted) (g1 (x2 dAdd (xComp (iSeq (xVar 0)) [3] (gNm 3) (x2 dNe (xVar 3) (xVar 1)) (xVar 3)) (xLst (xCons (xVar 2) xNil))))))))
def G_l_exchanged : List D → Option D := runB 4 3 b_l_exchanged
def b_steps : Sx := (sSeq (sSet 3 (xVar 1))
    (sSeq (sSet 4 (xLst xNil))
    (sSeq (sFor (iSeq (xVar 2)) (gNm 5)
    (sIf (x2 (dIn true) (xVar 5) (xVar 3)) (sSeq (sSet 6 (x2 dIx (xComp (iSeq (xCall G_swaps (xCons (xVar 0) (xCons (xVar 3) (xCons (xVar 5) xNil))))) [7] (gNm 7) (x2 (dIn true) (xVar 7) (xVar 2)) (xVar 7)) (xC (.int 0))))
    (sSeq (sApp 4 (xTup (xCons (xVar 6) (xCons (xVar 5) xNil))))
    (sSet 3 (xCall (on1 dTupOf) (g1 (xCall (on1 dSorted) (g1 (x2 dAdd (xComp (iSeq (xVar 3)) [7] (gNm 7) (x2 dNe (xVar 7) (xVar 6)) (xVar 7)) (xLst (xCons (xVar 5) xNil)))))))))) sNil))
    (sRet (xCall (on1 dTupOf) (g1 (xVar 4)))))))
def G_steps : List D → Option D := runB 8 3 b_steps
def b_lightest : Sx := (sSeq (sSet 1 (xTup xNil))
    (sSeq (sFor (iSeq (xCall (on1 dSorted) (g1 (xComp (iEnumT (x2 dIx (xVar 0) (xC (.int 1)))) [3, 4] (gTu [3, 4]) xYes (xTup (xCons (x2 dIx (xVar 4) (xC (.int 2))) (xCons (xVar 3) xNil))))))) (gTu [2, 3])
    (sIf (x2 dLt (xCall (on1 dLen) (g1 (xCall G_joined (xCons (xVar 0) (xCons (x2 dAdd (xVar 1) (xTup (xCons (xVar 3) xNil))) xNil))))) (xCall (on1 dLen) (g1 (xCall G_joined (xCons (xVar 0) (xCons (xVar 1) xNil)))))) (sSet 1 (x2 dAdd (xVar 1) (xTup (xCons (xVar 3) xNil)))) sNil))
    (sSeq (sIf (x2 dLt (xCall (on1 dLen) (g1 (xVar 1))) (x2 dSub (x2 dIx (xVar 0) (xC (.int 0))) (xC (.int 1)))) sEx sNil)
    (sRet (xCall (on1 dTupOf) (g1 (xCall (on1 dSortedA) (g1 (xVar 1)))))))))
def G_lightest : List D → Option D := runB 5 1 b_lightest
def b_is_only : Sx := (sSeq (sSetX 1 (xCall G_lightest (xCons (xVar 0) xNil)))
    (sSeq (sFor (iEnumT (x2 dIx (xVar 0) (xC (.int 1)))) (gTu [2, 3])
    (sIf (xAnd (x2 (dIn true) (xVar 2) (xVar 1)) (xCall (on1 dAny) (g1 (xComp (iSeq (xCall G_swaps (xCons (xVar 0) (xCons (xVar 1) (xCons (xVar 2) xNil))))) [4] (gNm 4) xYes (x2 dEq (x2 dIx (x2 dIx (x2 dIx (xVar 0) (xC (.int 1))) (xVar 4)) (xC (.int 2))) (x2 dIx (xVar 3) (xC (.int 2)))))))) (sRet (xC (.bool false))) sNil))
    (sRet (xC (.bool true)))))
def G_is_only : List D → Option D := runB 5 1 b_is_only
def b_l_told : Sx := (sSeq (sTry (sIf (xVar 1) (sSetX 3 (xCall G_lightest (xCons (xVar 0) xNil))) (sSetX 3 (xCall G_is_only (xCons (xVar 0) xNil)))) .none)
    (sRet (x2 dIx (xLst (xCons (xVar 3) (xCons (xC (.int 0)) xNil))) (xCall (on1 dInt1) (g1 (x2 (dIs false) (xVar 3) (xC .none)))))))
def G_l_told : List D → Option D := runB 5 2 b_l_told
def b_length_of : Sx := (sRet (xCall (on1 dSum) (g1 (xComp (iSeq (xVar 1)) [2] (gNm 2) xYes (x2 dIx (x2 dIx (x2 dIx (xVar 0) (xC (.int 1))) (xVar 2)) (xC (.int 2)))))))
def G_length_of : List D → Option D := runB 3 2 b_length_of
def b_word_of : Sx := (sSeq (sSet 2 (xCall (on1 dListOf) (g1 (xVar 0))))
    (sSeq (sSet 3 (xLst xNil))
    (sSeq (sWhile 100 (x2 dGt (xCall (on1 dLen) (g1 (xVar 2))) (xC (.int 1)))
    (sSeq (sSet 4 (xComp (iR1 (xVar 1)) [6] (gNm 6) (x2 dEq (xCall (on1 dLen) (g1 (xComp (iSeq (xVar 2)) [5] (gNm 5) (x2 (dIn false) (xVar 6) (xVar 5)) (xVar 5)))) (xC (.int 1))) (xVar 6)))
    (sSeq (sSet 5 (x2 dIx (xComp (iSeq (xVar 2)) [5] (gNm 5) (x2 (dIn false) (x2 dIx (xVar 4) (xC (.int 0))) (xVar 5)) (xVar 5)) (xC (.int 0))))
    (sSeq (sApp 3 (x2 dSub (x2 dAdd (x2 dIx (xVar 5) (xC (.int 0))) (x2 dIx (xVar 5) (xC (.int 1)))) (x2 dIx (xVar 4) (xC (.int 0)))))
    (sRem 2 (xVar 5))))))
    (sRet (xCall (on1 dTupOf) (g1 (xVar 3)))))))
def G_word_of : List D → Option D := runB 7 2 b_word_of
def b_tree_of : Sx := (sSeq (sSet 2 (xLR (xVar 1)))
    (sSeq (sSet 3 (xLst xNil))
    (sSeq (sFor (iEnumT (xVar 0)) (gTu [4, 5])
    (sSeq (sSet 6 (x2 dIx (xComp (iSeq (xVar 2)) [7] (gNm 7) (x2 (dIn true) (xVar 7) (xSl (xVar 0) (some (xVar 4)) none)) (xVar 7)) (xC (.int 0))))
    (sSeq (sApp 3 (xTup (xCons (xCall dMin2 (g2 (xVar 6) (xVar 5))) (xCons (xCall dMax2 (g2 (xVar 6) (xVar 5))) xNil))))
    (sRem 2 (xVar 6)))))
    (sSeq (sIf (x2 dEq (xCall (on1 dLen) (g1 (xVar 2))) (xC (.int 2))) (sApp 3 (xTup (xCons (x2 dIx (xVar 2) (xC (.int 0))) (xCons (x2 dIx (xVar 2) (xC (.int 1))) xNil)))) sNil)
    (sRet (xCall (on1 dTupOf) (g1 (xCall (on1 dSorted) (g1 (xVar 3))))))))))
def G_tree_of : List D → Option D := runB 8 2 b_tree_of
def b_l_word : Sx := (sSeq (sSet 2 (xCall (on1 dListOf) (g1 (xVar 0))))
    (sSeq (sSet 3 (xTup xNil))
    (sSeq (sWhile 100 (x2 dGt (xCall (on1 dLen) (g1 (xVar 2))) (xC (.int 1)))
    (sSeq (sSet 4 (xComp (iR1 (xVar 1)) [6] (gNm 6) (x2 dEq (xCall (on1 dLen) (g1 (xComp (iSeq (xVar 2)) [5] (gNm 5) (x2 (dIn false) (xVar 6) (xVar 5)) (xVar 5)))) (xC (.int 1))) (xVar 6)))
    (sSeq (sSet 5 (x2 dIx (xComp (iSeq (xVar 2)) [5] (gNm 5) (x2 (dIn false) (x2 dIx (xVar 4) (xC (.int 0))) (xVar 5)) (xVar 5)) (xC (.int 0))))
    (sSeq (sSet 3 (x2 dAdd (xVar 3) (xTup (xCons (x2 dSub (x2 dAdd (x2 dIx (xVar 5) (xC (.int 0))) (x2 dIx (xVar 5) (xC (.int 1)))) (x2 dIx (xVar 4) (xC (.int 0)))) xNil))))
    (sRem 2 (xVar 5))))))
    (sRet (xVar 3)))))
def G_l_word : List D → Option D := runB 7 2 b_l_word
def b_whole : Sx := (sSeq (sSet 1 (xLst xNil))
    (sSeq (sFor (iR1 (xVar 0)) (gNm 2)
    (sExt 1 (xComp (iR2 (x2 dAdd (xVar 2) (xC (.int 1))) (xVar 0)) [3] (gNm 3) xYes (xTup (xCons (xVar 2) (xCons (xVar 3) (xCons (xC (.int 1)) xNil)))))))
    (sRet (xTup (xCons (xVar 0) (xCons (xCall (on1 dTupOf) (g1 (xVar 1))) xNil))))))
def G_whole : List D → Option D := runB 4 1 b_whole
def b_spread : Sx := (sSeq (sDNew 3 (xVar 2) (xC (.int 0)))
    (sSeq (sSet 4 (xLst (xCons (xVar 2) xNil)))
    (sSeq (sSet 5 (xC (.int 0)))
    (sSeq (sWhile 100 (x2 dLt (xVar 5) (xCall (on1 dLen) (g1 (xVar 4))))
    (sSeq (sFor (iSeq (xVar 0)) (gTu [6, 7])
    (sIf (xAnd (x2 (dIn false) (x2 dIx (xVar 4) (xVar 5)) (xTup (xCons (xVar 6) (xCons (xVar 7) xNil)))) (x2 (dInK true) (x2 dSub (x2 dAdd (xVar 6) (xVar 7)) (x2 dIx (xVar 4) (xVar 5))) (xVar 3))) (sSeq (sDPut 3 (x2 dSub (x2 dAdd (xVar 6) (xVar 7)) (x2 dIx (xVar 4) (xVar 5))) (x2 dAdd (x2 dGet (xVar 3) (x2 dIx (xVar 4) (xVar 5))) (xC (.int 1))))
    (sApp 4 (x2 dSub (x2 dAdd (xVar 6) (xVar 7)) (x2 dIx (xVar 4) (xVar 5))))) sNil))
    (sSet 5 (x2 dAdd (xVar 5) (xC (.int 1))))))
    (sRet (xVar 3))))))
def G_spread : List D → Option D := runB 8 3 b_spread
def b_apart : Sx := (sRet (x2 dGet (xCall G_spread (xCons (xVar 0) (xCons (xVar 1) (xCons (xVar 2) xNil)))) (xVar 3)))
def G_apart : List D → Option D := runB 4 4 b_apart
def b_reach : Sx := (sSeq (sSet 3 (xCall G_spread (xCons (xVar 0) (xCons (xVar 1) (xCons (xVar 2) xNil)))))
    (sRet (xCall (on1 dMaxL) (g1 (xComp (iKs (xVar 3)) [4] (gNm 4) xYes (x2 dGet (xVar 3) (xVar 4)))))))
def G_reach : List D → Option D := runB 5 3 b_reach
def b_middles : Sx := (sSeq (sSet 2 (xCall (on1 dMinL) (g1 (xComp (iR1 (xVar 1)) [3] (gNm 3) xYes (xCall G_reach (xCons (xVar 0) (xCons (xVar 1) (xCons (xVar 3) xNil))))))))
    (sRet (xCall (on1 dTupOf) (g1 (xComp (iR1 (xVar 1)) [3] (gNm 3) (x2 dEq (xCall G_reach (xCons (xVar 0) (xCons (xVar 1) (xCons (xVar 3) xNil)))) (xVar 2)) (xVar 3))))))
def G_middles : List D → Option D := runB 4 2 b_middles
def b_l_spread : Sx := (sSeq (sDNew 3 (xVar 1) (xC (.int 0)))
    (sSeq (sFor (iR1 (xVar 2)) (gNm 4)
    (sFor (iSeq (xVar 0)) (gTu [5, 6])
    (sIf (xAnd (x2 (dInK false) (xVar 5) (xVar 3)) (x2 (dInK true) (xVar 6) (xVar 3))) (sDPut 3 (xVar 6) (x2 dAdd (x2 dGet (xVar 3) (xVar 5)) (xC (.int 1)))) (sIf (xAnd (x2 (dInK false) (xVar 6) (xVar 3)) (x2 (dInK true) (xVar 5) (xVar 3))) (sDPut 3 (xVar 5) (x2 dAdd (x2 dGet (xVar 3) (xVar 6)) (xC (.int 1)))) sNil))))
    (sRet (xVar 3))))
def G_l_spread : List D → Option D := runB 7 3 b_l_spread
def b_longest : Sx := (sRet (xCall (on1 dMaxL) (g1 (xComp (iR1 (xVar 1)) [2] (gNm 2) xYes (xCall G_reach (xCons (xVar 0) (xCons (xVar 1) (xCons (xVar 2) xNil))))))))
def G_longest : List D → Option D := runB 3 2 b_longest
end Tw

set_option Elab.async false
set_option linter.all false
set_option maxRecDepth 100000
namespace Tw
open PySem PySem.Spec PyProof.Rows L2
/-! ### how the pure functions run -/
def andO (a : Option D) (b : Option D) : Option D := match a with
  | some (.bool true) => b
  | some (.bool false) => some (.bool false)
  | _ => none
def orO (a : Option D) (b : Option D) : Option D := match a with
  | some (.bool true) => some (.bool true)
  | some (.bool false) => b
  | _ => none
def ifO (a : Option D) (b c : Option Out) : Option Out := match a with
  | some (.bool true) => b
  | some (.bool false) => c
  | _ => none
def seqO (a : Option Out) (g : Sx) : Option Out := match a with
  | some (.nx ρ') => g ρ'
  | o => o
@[simp] theorem andO_b (p : Bool) (b : Option D) : andO (some (.bool p)) b = if p = true then b else some (.bool false) := by cases p <;> rfl
@[simp] theorem orO_b (p : Bool) (b : Option D) : orO (some (.bool p)) b = if p = true then some (.bool true) else b := by cases p <;> rfl
@[simp] theorem ifO_b (p : Bool) (b c : Option Out) : ifO (some (.bool p)) b c = if p = true then b else c := by cases p <;> rfl
@[simp] theorem seqO_nx (ρ : Rho) (g : Sx) : seqO (some (.nx ρ)) g = g ρ := Eq.trans rfl rfl
@[simp] theorem seqO_rt (d : D) (g : Sx) : seqO (some (.rt d)) g = some (.rt d) := Eq.trans rfl rfl
theorem seqO_ite (c : Prop) [Decidable c] (a b : Option Out) (g : Sx) : seqO (if c then a else b) g = if c then seqO a g else seqO b g := by split <;> rfl
section
variable (fa fb fc : Ex) (g1 g2 : Sx) (ρ : Rho)
theorem r_and : xAnd fa fb ρ = andO (fa ρ) (fb ρ) := by
  unfold xAnd andO
  cases fa ρ with
  | none => rfl
  | some d => cases d <;> rfl
theorem r_or : xOr fa fb ρ = orO (fa ρ) (fb ρ) := by
  unfold xOr orO
  cases fa ρ with
  | none => rfl
  | some d => cases d <;> rfl
theorem r_if : sIf fa g1 g2 ρ = ifO (fa ρ) (g1 ρ) (g2 ρ) := by
  unfold sIf ifO
  cases fa ρ with
  | none => rfl
  | some d => cases d <;> rfl
theorem r_seq : sSeq g1 g2 ρ = seqO (g1 ρ) g2 := by
  unfold sSeq seqO
  cases g1 ρ with
  | none => rfl
  | some o => cases o <;> rfl
theorem r_1 (g : D → Option D) : x1 g fa ρ = (fa ρ).bind g := Eq.trans rfl rfl
theorem r_2 (g : D → D → Option D) : x2 g fa fb ρ = (fa ρ).bind fun x => (fb ρ).bind fun y => g x y := Eq.trans rfl rfl
theorem r_c (d : D) : xC d ρ = some d := Eq.trans rfl rfl
theorem r_call (G : List D → Option D) (g : Rho → Option (List D)) : xCall G g ρ = (g ρ).bind G := Eq.trans rfl rfl
theorem r_cons (f : Ex) (g : Rho → Option (List D)) : xCons f g ρ = (f ρ).bind fun d => (g ρ).bind fun ds => some (d :: ds) := Eq.trans rfl rfl
theorem r_nil : xNil ρ = some [] := Eq.trans rfl rfl
theorem r_ret : sRet fa ρ = (fa ρ).map Out.rt := Eq.trans rfl rfl
theorem r_set (i : Nat) : sSet i fa ρ = (fa ρ).map fun d => .nx (ρ.set i (some d)) := Eq.trans rfl rfl
theorem r_snil : sNil ρ = some (.nx ρ) := Eq.trans rfl rfl
theorem r_asg (tg : Tg) : sAsg tg fa ρ = (fa ρ).bind fun d => (tg d ρ).map Out.nx := Eq.trans rfl rfl
theorem r_for (fi : It1) (tg : Tg) (body : Sx) : sFor fi tg body ρ = (fi ρ).bind fun ds => forGo tg body ds ρ := Eq.trans rfl rfl
theorem r_comp (fi : It1) (vs : List Nat) (tg : Tg) (tst elt : Ex) : xComp fi vs tg tst elt ρ = (fi ρ).bind fun ds => if ds.length ≤ LIM then (compGo tg tst elt (wipeR ρ vs) ds).map PyData.list else none := Eq.trans rfl rfl
theorem r_on1 (g : D → Option D) (x : D) : on1 g [x] = g x := Eq.trans rfl rfl
theorem r_tup (g : Rho → Option (List D)) : xTup g ρ = (g ρ).bind fun ds => if ds.length ≤ LIM then some (.tuple ds) else none := Eq.trans rfl rfl
theorem r_lst (g : Rho → Option (List D)) : xLst g ρ = (g ρ).bind fun ds => if ds.length ≤ LIM then some (.list ds) else none := Eq.trans rfl rfl
theorem r_sl (f : Ex) (lo hi : Option Ex) : xSl f lo hi ρ = (f ρ).bind fun x => (partOf lo ρ).bind fun l => (partOf hi ρ).bind fun h => dSl x l h := Eq.trans rfl rfl
theorem r_pn : partOf none ρ = some none := Eq.trans rfl rfl
theorem r_ps (e : Ex) : partOf (some e) ρ = ((e ρ).bind intOf).map some := Eq.trans rfl rfl
theorem r_nm (i : Nat) (d : D) : gNm i d ρ = some (ρ.set i (some d)) := Eq.trans rfl rfl
theorem r_int (i : Int) : intOf (.int i) = some i := Eq.trans rfl rfl
theorem r_rtO (d : D) : outD (some (.rt d)) = some d := Eq.trans rfl rfl
theorem r_isLst (ds : List D) (h : fa ρ = some (.list ds)) : iSeq fa ρ = some ds := by unfold iSeq; rw [h]
theorem r_isTup (ds : List D) (h : fa ρ = some (.tuple ds)) : iSeq fa ρ = some ds := by unfold iSeq; rw [h]
end
/-- a slot that stands in a written list -/
theorem r_v0 (d : D) (r : Rho) : xVar 0 (some d :: r) = some d := Eq.trans rfl rfl
theorem r_vs (i : Nat) (a : Option D) (r : Rho) : xVar (i + 1) (a :: r) = xVar i r := by
  unfold xVar
  rw [List.getElem?_cons_succ]
theorem ifO_none_b {p : Bool} {b : Option Out} : ifO (some (.bool p)) b none = if p = true then b else none := ifO_b _ _ _
/-- chains of comparisons of whole numbers -/
theorem r_chainLe (fa fb fc : Ex) (ρ : Rho) {i j k : Int} (h1 : fa ρ = some (.int i)) (h2 : fb ρ = some (.int j)) (h3 : fc ρ = some (.int k)) : xChain dLe dLe fa fb fc ρ = some (.bool (decide (i ≤ j) && decide (j ≤ k))) := by
  unfold xChain
  rw [h1, h2]
  dsimp only [Option.bind_some, dLe]
  by_cases h : i ≤ j
  · rw [decide_eq_true h, h3]
    rfl
  · rw [decide_eq_false h]
    rfl
/-! loops -/
theorem for_ind {tg : Tg} {body : Sx} (P : Nat → Rho → Prop) (ds : List D) (hs : ∀ i d ρ, ds[i]? = some d → P i ρ → ∃ ρ1 ρ2, tg d ρ = some ρ1 ∧ body ρ1 = some (.nx ρ2) ∧ P (i + 1) ρ2) :
    ∀ ρ, P 0 ρ → ∃ ρ', forGo tg body ds ρ = some (.nx ρ') ∧ P ds.length ρ' := by
  have key : ∀ (r : List D) (n : Nat) (ρ : Rho), ds.drop n = r → n + r.length = ds.length → P n ρ → ∃ ρ', forGo tg body r ρ = some (.nx ρ') ∧ P ds.length ρ' := by
    intro r
    induction r with
    | nil =>
      intro n ρ _ hl hp
      have : n = ds.length := by simpa using hl
      subst this
      exact ⟨ρ, rfl, hp⟩
    | cons d r ih =>
      intro n ρ hd hl hp
      have hn : ds[n]? = some d := by
        have := congrArg (fun l => l[0]?) hd
        simpa using this
      obtain ⟨ρ1, ρ2, h1, h2, h3⟩ := hs n d ρ hn hp
      have hd' : ds.drop (n + 1) = r := by
        have := congrArg List.tail hd
        simpa using this
      obtain ⟨ρ', e, h4⟩ := ih (n + 1) ρ2 hd' (by rw [List.length_cons] at hl; omega) h3
      refine ⟨ρ', ?_, h4⟩
      rw [forGo, h1]
      dsimp only [Option.bind_some]
      rw [h2]
      exact e
  intro ρ hp
  exact key ds 0 ρ List.drop_zero (by omega) hp
/-- a loop that may leave: at each item it goes on, or returns v -/
theorem for_find {tg : Tg} {body : Sx} (P : Nat → Rho → Prop) (v : D) (bad : D → Bool) (ds : List D)
    (hs : ∀ i d ρ, ds[i]? = some d → P i ρ → ∃ ρ1, tg d ρ = some ρ1 ∧ (if bad d = true then body ρ1 = some (.rt v) else ∃ ρ2, body ρ1 = some (.nx ρ2) ∧ P (i + 1) ρ2)) :
    ∀ ρ, P 0 ρ → if ds.any bad = true then forGo tg body ds ρ = some (.rt v) else ∃ ρ', forGo tg body ds ρ = some (.nx ρ') ∧ P ds.length ρ' := by
  have key : ∀ (r : List D) (n : Nat) (ρ : Rho), ds.drop n = r → n + r.length = ds.length → P n ρ → if r.any bad = true then forGo tg body r ρ = some (.rt v) else ∃ ρ', forGo tg body r ρ = some (.nx ρ') ∧ P ds.length ρ' := by
    intro r
    induction r with
    | nil =>
      intro n ρ _ hl hp
      have : n = ds.length := by simpa using hl
      subst this
      exact ⟨ρ, rfl, hp⟩
    | cons d r ih =>
      intro n ρ hd hl hp
      have hn : ds[n]? = some d := by
        have := congrArg (fun l => l[0]?) hd
        simpa using this
      obtain ⟨ρ1, h1, h2⟩ := hs n d ρ hn hp
      rw [List.any_cons]
      cases hb : bad d with
      | true =>
        rw [hb, if_pos rfl] at h2
        rw [Bool.true_or, if_pos rfl, forGo, h1]
        dsimp only [Option.bind_some]
        rw [h2]
      | false =>
        rw [hb, if_neg Bool.false_ne_true] at h2
        obtain ⟨ρ2, h2, h3⟩ := h2
        have hd' : ds.drop (n + 1) = r := by
          have := congrArg List.tail hd
          simpa using this
        have := ih (n + 1) ρ2 hd' (by rw [List.length_cons] at hl; omega) h3
        rw [Bool.false_or]
        have e : forGo tg body (d :: r) ρ = forGo tg body r ρ2 := by
          rw [forGo, h1]
          dsimp only [Option.bind_some]
          rw [h2]
        rw [e]
        exact this
  intro ρ hp
  exact key ds 0 ρ List.drop_zero (by omega) hp
/-- a comprehension whose every step is known -/
theorem comp_map {tg : Tg} {tst elt : Ex} {ρ : Rho} (keep : D → Bool) (val : D → D) : ∀ (ds : List D), (∀ d ∈ ds, ∃ ρ1, tg d ρ = some ρ1 ∧ tst ρ1 = some (.bool (keep d)) ∧ (keep d = true → elt ρ1 = some (val d))) →
    compGo tg tst elt ρ ds = some ((ds.filter keep).map val)
  | [], _ => rfl
  | d :: r, h => by
    obtain ⟨ρ1, h1, h2, h3⟩ := h d List.mem_cons_self
    have ih := comp_map keep val r fun x hx => h x (List.mem_cons_of_mem _ hx)
    rw [compGo, h1]
    dsimp only [Option.bind_some]
    rw [h2]
    cases hk : keep d with
    | true =>
      dsimp only
      rw [h3 hk, ih, List.filter_cons, if_pos hk]
      rfl
    | false =>
      dsimp only
      rw [ih, List.filter_cons, if_neg (by rw [hk]; exact Bool.false_ne_true)]
/-- .. without a test -/
theorem comp_all {tg : Tg} {elt : Ex} {ρ : Rho} (val : D → D) (ds : List D) (h : ∀ d ∈ ds, ∃ ρ1, tg d ρ = some ρ1 ∧ elt ρ1 = some (val d)) : compGo tg xYes elt ρ ds = some (ds.map val) := by
  have := comp_map (tst := xYes) (elt := elt) (tg := tg) (ρ := ρ) (fun _ => true) val ds fun d hd => by
    obtain ⟨ρ1, h1, h2⟩ := h d hd
    exact ⟨ρ1, h1, rfl, fun _ => h2⟩
  rw [this, List.filter_eq_self.mpr fun _ _ => rfl]
/-! places -/
theorem at0 {α : Type} (a : α) (r : List α) : atI (a :: r) 0 = some a := atI_nat (j := 0) rfl
theorem at1 {α : Type} (a b : α) (r : List α) : atI (a :: b :: r) 1 = some b := atI_nat (j := 1) rfl
theorem at2 {α : Type} (a b c : α) (r : List α) : atI (a :: b :: c :: r) 2 = some c := atI_nat (j := 2) rfl
theorem at_n {α : Type} {xs : List α} {i : Int} {v : α} (h0 : 0 ≤ i) (h : xs[i.toNat]? = some v) : atI xs i = some v := by
  have := atI_nat (xs := xs) (j := i.toNat) h
  rwa [Int.toNat_of_nonneg h0] at this
/-- a def's body on its arguments -/
theorem r_run {N n : Nat} {g : Sx} {ds : List D} (h : ds.length = n) : runB N n g ds = outD (g (ds.map some ++ List.replicate (N - ds.length) none)) := by
  unfold runB
  rw [if_pos h]
end Tw

set_option Elab.async false
set_option linter.all false
set_option maxRecDepth 100000
namespace Tw
open PySem PySem.Spec PyProof.Rows L2
/-! ### one step each -/
theorem dAdd_i (a b : Int) : dAdd (.int a) (.int b) = some (.int (a + b)) := Eq.trans rfl rfl
theorem dSub_i (a b : Int) : dSub (.int a) (.int b) = some (.int (a - b)) := Eq.trans rfl rfl
theorem dNeg_i (a : Int) : dNeg (.int a) = some (.int (-a)) := Eq.trans rfl rfl
theorem dNot_b (a : Bool) : dNot (.bool a) = some (.bool (!a)) := Eq.trans rfl rfl
theorem dLt_i (a b : Int) : dLt (.int a) (.int b) = some (.bool (decide (a < b))) := Eq.trans rfl rfl
theorem dLe_i (a b : Int) : dLe (.int a) (.int b) = some (.bool (decide (a ≤ b))) := Eq.trans rfl rfl
theorem dGt_i (a b : Int) : dGt (.int a) (.int b) = some (.bool (decide (b < a))) := Eq.trans rfl rfl
theorem dGe_i (a b : Int) : dGe (.int a) (.int b) = some (.bool (decide (b ≤ a))) := Eq.trans rfl rfl
theorem dGeA_i (a b : Int) : dGeA (.int a) (.int b) = some (.bool (decide (b ≤ a))) := Eq.trans rfl rfl
theorem dMul_i {i j : Int} (h : -18446744073709551616 < i) (h' : i < 18446744073709551616) : dMul (.int i) (.int j) = some (.int (i * j)) := by
  exact if_pos (.inl (by omega))
theorem dMul_j {i j : Int} (h : -18446744073709551616 < j) (h' : j < 18446744073709551616) : dMul (.int i) (.int j) = some (.int (i * j)) := by
  exact if_pos (.inr (by omega))
theorem dDiv_i {i j : Int} (h : 0 < j) (h' : j < 1073741824) : dDiv (.int i) (.int j) = some (.int (i / j)) := by
  exact if_pos ⟨h, h'⟩
theorem dMod_i {i j : Int} (h : 0 < j) : dMod (.int i) (.int j) = some (.int (i % j)) := by
  exact if_pos h
theorem dEq_i (a b : Int) : dEq (.int a) (.int b) = some (.bool (decide (a = b))) := by
  unfold dEq
  rw [if_pos ⟨rfl, rfl⟩, PyData.eqv]
  rfl
theorem dNe_i (a b : Int) : dNe (.int a) (.int b) = some (.bool (!decide (a = b))) := by
  unfold dNe
  rw [if_pos ⟨rfl, rfl⟩, PyData.eqv]
  rfl
theorem dEq_b (a b : Bool) : dEq (.bool a) (.bool b) = some (.bool (a == b)) := by
  unfold dEq
  rw [if_pos ⟨rfl, rfl⟩, PyData.eqv]
theorem dLen_l (ds : List D) : dLen (.list ds) = some (.int ds.length) := Eq.trans rfl rfl
theorem dLen_t (ds : List D) : dLen (.tuple ds) = some (.int ds.length) := Eq.trans rfl rfl
theorem dTupOf_l (ds : List D) : dTupOf (.list ds) = some (.tuple ds) := Eq.trans rfl rfl
theorem dTupOf_t (ds : List D) : dTupOf (.tuple ds) = some (.tuple ds) := Eq.trans rfl rfl
theorem dMin2_i (i j : Int) : dMin2 [.int i, .int j] = some (.int (if j < i then j else i)) := Eq.trans rfl rfl
theorem dMax2_i (i j : Int) : dMax2 [.int i, .int j] = some (.int (if j > i then j else i)) := Eq.trans rfl rfl
theorem dInt1_b (b : Bool) : dInt1 (.bool b) = some (.int (if b = true then 1 else 0)) := by cases b <;> rfl
theorem dIx_l (ds : List D) (i : Int) : dIx (.list ds) (.int i) = atI ds i := Eq.trans rfl rfl
theorem dIx_t (ds : List D) (i : Int) : dIx (.tuple ds) (.int i) = atI ds i := Eq.trans rfl rfl
theorem dAddL {a b : List D} (h : a.length + b.length ≤ LIM) : dAdd (.list a) (.list b) = some (.list (a ++ b)) := by
  exact if_pos h
theorem dAddT {a b : List D} (h : a.length + b.length ≤ LIM) : dAdd (.tuple a) (.tuple b) = some (.tuple (a ++ b)) := by
  exact if_pos h
theorem dSl_l (ds : List D) (lo hi : Option Int) : dSl (.list ds) lo hi = some (.list (cutD ds lo hi)) := Eq.trans rfl rfl
theorem dSl_t (ds : List D) (lo hi : Option Int) : dSl (.tuple ds) lo hi = some (.tuple (cutD ds lo hi)) := Eq.trans rfl rfl
theorem outD_ite (c : Prop) [Decidable c] (a b : Option Out) : outD (if c then a else b) = if c then outD a else outD b := by split <;> rfl
theorem iSeq_l {f : Ex} {ρ : Rho} {ds : List D} (h : f ρ = some (.list ds)) : iSeq f ρ = some ds := by unfold iSeq; rw [h]
theorem iSeq_t {f : Ex} {ρ : Rho} {ds : List D} (h : f ρ = some (.tuple ds)) : iSeq f ρ = some ds := by unfold iSeq; rw [h]
theorem iR1_i {f : Ex} {ρ : Rho} {n : Nat} (h : f ρ = some (.int n)) (hn : n < 1000000) : iR1 f ρ = some (rng 0 n) := by
  unfold iR1; rw [h]
  show (if _ then _ else _) = _
  rw [if_pos ⟨by omega, by omega⟩]; rfl
theorem iR1_j {f : Ex} {ρ : Rho} {n : Int} (h : f ρ = some (.int n)) (h0 : -1000000 < n) (hn : n < 1000000) : iR1 f ρ = some (rng 0 n.toNat) := by
  unfold iR1; rw [h]
  show (if _ then _ else _) = _
  rw [if_pos ⟨by omega, by omega⟩]
theorem iR2_i {f g : Ex} {ρ : Rho} {i j : Int} (h : f ρ = some (.int i)) (h' : g ρ = some (.int j)) (hi : -400000 < i ∧ i < 400000) (hj : -400000 < j ∧ j < 400000) : iR2 f g ρ = some (rng i (j - i).toNat) := by
  unfold iR2; rw [h, h']
  show (if _ then _ else _) = _
  rw [if_pos ⟨by omega, by omega, by omega⟩]
theorem xLR_i {f : Ex} {ρ : Rho} {n : Nat} (h : f ρ = some (.int n)) (hn : n < 1000000) : xLR f ρ = some (.list (rng 0 n)) := by
  unfold xLR; rw [iR1_i h hn]
  show (if _ then _ else _) = _
  rw [if_pos (by rw [rng, List.length_map, List.length_range]; exact Nat.le_of_lt hn)]
theorem r_compL {fi : It1} {vs : List Nat} {tg : Tg} {tst elt : Ex} {ρ : Rho} {ds es : List D} (h : fi ρ = some ds) (hl : ds.length ≤ LIM) (hc : compGo tg tst elt (wipeR ρ vs) ds = some es) : xComp fi vs tg tst elt ρ = some (.list es) := by
  unfold xComp
  rw [h]
  show (if _ then _ else _) = _
  rw [if_pos hl, hc]
  rfl
theorem r_forL {fi : It1} {tg : Tg} {body : Sx} {ρ : Rho} {ds : List D} {o : Option Out} (h : fi ρ = some ds) (hc : forGo tg body ds ρ = o) : sFor fi tg body ρ = o := by
  unfold sFor
  rw [h]
  exact hc
theorem r_app {i : Nat} {f : Ex} {ρ : Rho} {ds : List D} {d : D} (h : ρ[i]? = some (some (.list ds))) (h' : f ρ = some d) (hl : ds.length < LIM) : sApp i f ρ = some (.nx (ρ.set i (some (.list (ds ++ [d]))))) := by
  unfold sApp
  rw [h]
  show (f ρ).bind _ = _
  rw [h']
  show (if _ then _ else _) = _
  rw [if_pos hl]
theorem r_gTu2 {i j : Nat} {a b : D} {ρ : Rho} : gTu [i, j] (.tuple [a, b]) ρ = some ((ρ.set i (some a)).set j (some b)) := Eq.trans rfl rfl
theorem r_gTu3 {i j k : Nat} {a b c : D} {ρ : Rho} : gTu [i, j, k] (.tuple [a, b, c]) ρ = some (((ρ.set i (some a)).set j (some b)).set k (some c)) := Eq.trans rfl rfl
theorem seqO_def (g1 g2 : Sx) (ρ : Rho) {o : Option Out} (h : g1 ρ = o) : sSeq g1 g2 ρ = seqO o g2 := by rw [r_seq, h]
theorem LIM_eq : LIM = 1000000 := rfl
theorem r_run1 {N : Nat} {g : Sx} {a : D} : runB N 1 g [a] = outD (g (some a :: List.replicate (N - 1) none)) := Eq.trans rfl rfl
theorem r_run2 {N : Nat} {g : Sx} {a b : D} : runB N 2 g [a, b] = outD (g (some a :: some b :: List.replicate (N - 2) none)) := Eq.trans rfl rfl
theorem r_run3 {N : Nat} {g : Sx} {a b c : D} : runB N 3 g [a, b, c] = outD (g (some a :: some b :: some c :: List.replicate (N - 3) none)) := Eq.trans rfl rfl
theorem r_run4 {N : Nat} {g : Sx} {a b c d : D} : runB N 4 g [a, b, c, d] = outD (g (some a :: some b :: some c :: some d :: List.replicate (N - 4) none)) := Eq.trans rfl rfl
theorem r_run0 {N : Nat} {g : Sx} : runB N 0 g [] = outD (g (List.replicate N none)) := Eq.trans rfl rfl
theorem r_tup0 {ρ : Rho} : xTup xNil ρ = some (.tuple []) := by
  simp only [r_tup, r_cons, r_nil, Option.bind_assoc, Option.bind_some]
  rfl
theorem r_tup1 {f0 : Ex} {ρ : Rho} : xTup (xCons f0 xNil) ρ = (f0 ρ).bind fun d0 => some (.tuple [d0]) := by
  simp only [r_tup, r_cons, r_nil, Option.bind_assoc, Option.bind_some]
  rfl
theorem r_tup2 {f0 f1 : Ex} {ρ : Rho} : xTup (xCons f0 (xCons f1 xNil)) ρ = (f0 ρ).bind fun d0 => (f1 ρ).bind fun d1 => some (.tuple [d0, d1]) := by
  simp only [r_tup, r_cons, r_nil, Option.bind_assoc, Option.bind_some]
  rfl
theorem r_tup3 {f0 f1 f2 : Ex} {ρ : Rho} : xTup (xCons f0 (xCons f1 (xCons f2 xNil))) ρ = (f0 ρ).bind fun d0 => (f1 ρ).bind fun d1 => (f2 ρ).bind fun d2 => some (.tuple [d0, d1, d2]) := by
  simp only [r_tup, r_cons, r_nil, Option.bind_assoc, Option.bind_some]
  rfl
theorem r_tup4 {f0 f1 f2 f3 : Ex} {ρ : Rho} : xTup (xCons f0 (xCons f1 (xCons f2 (xCons f3 xNil)))) ρ = (f0 ρ).bind fun d0 => (f1 ρ).bind fun d1 => (f2 ρ).bind fun d2 => (f3 ρ).bind fun d3 => some (.tuple [d0, d1, d2, d3]) := by
  simp only [r_tup, r_cons, r_nil, Option.bind_assoc, Option.bind_some]
  rfl
theorem r_tup5 {f0 f1 f2 f3 f4 : Ex} {ρ : Rho} : xTup (xCons f0 (xCons f1 (xCons f2 (xCons f3 (xCons f4 xNil))))) ρ = (f0 ρ).bind fun d0 => (f1 ρ).bind fun d1 => (f2 ρ).bind fun d2 => (f3 ρ).bind fun d3 => (f4 ρ).bind fun d4 => some (.tuple [d0, d1, d2, d3, d4]) := by
  simp only [r_tup, r_cons, r_nil, Option.bind_assoc, Option.bind_some]
  rfl
theorem r_tup6 {f0 f1 f2 f3 f4 f5 : Ex} {ρ : Rho} : xTup (xCons f0 (xCons f1 (xCons f2 (xCons f3 (xCons f4 (xCons f5 xNil)))))) ρ = (f0 ρ).bind fun d0 => (f1 ρ).bind fun d1 => (f2 ρ).bind fun d2 => (f3 ρ).bind fun d3 => (f4 ρ).bind fun d4 => (f5 ρ).bind fun d5 => some (.tuple [d0, d1, d2, d3, d4, d5]) := by
  simp only [r_tup, r_cons, r_nil, Option.bind_assoc, Option.bind_some]
  rfl
theorem r_lst0 {ρ : Rho} : xLst xNil ρ = some (.list []) := by
  simp only [r_lst, r_cons, r_nil, Option.bind_assoc, Option.bind_some]
  rfl
theorem r_lst1 {f0 : Ex} {ρ : Rho} : xLst (xCons f0 xNil) ρ = (f0 ρ).bind fun d0 => some (.list [d0]) := by
  simp only [r_lst, r_cons, r_nil, Option.bind_assoc, Option.bind_some]
  rfl
theorem r_lst2 {f0 f1 : Ex} {ρ : Rho} : xLst (xCons f0 (xCons f1 xNil)) ρ = (f0 ρ).bind fun d0 => (f1 ρ).bind fun d1 => some (.list [d0, d1]) := by
  simp only [r_lst, r_cons, r_nil, Option.bind_assoc, Option.bind_some]
  rfl
theorem r_lst3 {f0 f1 f2 : Ex} {ρ : Rho} : xLst (xCons f0 (xCons f1 (xCons f2 xNil))) ρ = (f0 ρ).bind fun d0 => (f1 ρ).bind fun d1 => (f2 ρ).bind fun d2 => some (.list [d0, d1, d2]) := by
  simp only [r_lst, r_cons, r_nil, Option.bind_assoc, Option.bind_some]
  rfl
theorem r_lst4 {f0 f1 f2 f3 : Ex} {ρ : Rho} : xLst (xCons f0 (xCons f1 (xCons f2 (xCons f3 xNil)))) ρ = (f0 ρ).bind fun d0 => (f1 ρ).bind fun d1 => (f2 ρ).bind fun d2 => (f3 ρ).bind fun d3 => some (.list [d0, d1, d2, d3]) := by
  simp only [r_lst, r_cons, r_nil, Option.bind_assoc, Option.bind_some]
  rfl
theorem r_lst5 {f0 f1 f2 f3 f4 : Ex} {ρ : Rho} : xLst (xCons f0 (xCons f1 (xCons f2 (xCons f3 (xCons f4 xNil))))) ρ = (f0 ρ).bind fun d0 => (f1 ρ).bind fun d1 => (f2 ρ).bind fun d2 => (f3 ρ).bind fun d3 => (f4 ρ).bind fun d4 => some (.list [d0, d1, d2, d3, d4]) := by
  simp only [r_lst, r_cons, r_nil, Option.bind_assoc, Option.bind_some]
  rfl
theorem r_lst6 {f0 f1 f2 f3 f4 f5 : Ex} {ρ : Rho} : xLst (xCons f0 (xCons f1 (xCons f2 (xCons f3 (xCons f4 (xCons f5 xNil)))))) ρ = (f0 ρ).bind fun d0 => (f1 ρ).bind fun d1 => (f2 ρ).bind fun d2 => (f3 ρ).bind fun d3 => (f4 ρ).bind fun d4 => (f5 ρ).bind fun d5 => some (.list [d0, d1, d2, d3, d4, d5]) := by
  simp only [r_lst, r_cons, r_nil, Option.bind_assoc, Option.bind_some]
  rfl
theorem o_bind {α β : Type} (a : α) (f : α → Option β) : (some a).bind f = f a := Eq.trans rfl rfl
theorem o_map {α β : Type} (a : α) (f : α → β) : (some a).map f = some (f a) := Eq.trans rfl rfl
/-- the script -/
abbrev scrP (ns : List Int) : D := .dict [(.none, .list (ns.map .int))]
theorem for_all {fi : It1} {tg : Tg} {body : Sx} {ρ : Rho} {o : Option Out} (e : sFor fi tg body ρ = o) {ds : List D} (hi : fi ρ = some ds) (P : Nat → Rho → Prop) (h0 : P 0 ρ)
    (hs : ∀ i d ρ, ds[i]? = some d → P i ρ → ∃ ρ1, tg d ρ = some ρ1 ∧ ∃ ρ2, body ρ1 = some (.nx ρ2) ∧ P (i + 1) ρ2) : ∃ ρ', o = some (.nx ρ') ∧ P ds.length ρ' := by
  rw [r_forL hi rfl] at e
  obtain ⟨ρ', h1, h2⟩ := for_ind P ds (fun i d ρ hd hp => by
    obtain ⟨ρ1, a, ρ2, b, c⟩ := hs i d ρ hd hp
    exact ⟨ρ1, ρ2, a, b, c⟩) ρ h0
  exact ⟨ρ', e.symm.trans h1, h2⟩
theorem for_some {fi : It1} {tg : Tg} {body : Sx} {ρ : Rho} {o : Option Out} (e : sFor fi tg body ρ = o) {ds : List D} (hi : fi ρ = some ds) (P : Nat → Rho → Prop) (v : D) (bad : D → Bool) (h0 : P 0 ρ)
    (hs : ∀ i d ρ, ds[i]? = some d → P i ρ → ∃ ρ1, tg d ρ = some ρ1 ∧ (if bad d = true then body ρ1 = some (.rt v) else ∃ ρ2, body ρ1 = some (.nx ρ2) ∧ P (i + 1) ρ2)) :
    (ds.any bad = true ∧ o = some (.rt v)) ∨ (ds.any bad = false ∧ ∃ ρ', o = some (.nx ρ') ∧ P ds.length ρ') := by
  rw [r_forL hi rfl] at e
  have := for_find P v bad ds hs ρ h0
  cases hb : ds.any bad with
  | true =>
    rw [hb, if_pos rfl] at this
    exact .inl ⟨rfl, e.symm.trans this⟩
  | false =>
    rw [hb, if_neg Bool.false_ne_true] at this
    obtain ⟨ρ', h1, h2⟩ := this
    exact .inr ⟨rfl, ρ', e.symm.trans h1, h2⟩
theorem rng_ix {lo : Int} {n i : Nat} {d : D} (h : (rng lo n)[i]? = some d) : i < n ∧ d = .int (lo + i) := by
  unfold rng at h
  rw [List.getElem?_map] at h
  by_cases hi : i < n
  · rw [List.getElem?_range hi] at h
    exact ⟨hi, (Option.some.inj h).symm⟩
  · rw [List.getElem?_eq_none (by rw [List.length_range]; omega)] at h
    cases h
theorem rng_lng (lo : Int) (n : Nat) : (rng lo n).length = n := by rw [rng, List.length_map, List.length_range]
def appD (i : Nat) (ρ : Rho) (l d : D) : Option Out := match l with
  | .list ds => if ds.length < LIM then some (.nx (ρ.set i (some (.list (ds ++ [d]))))) else none
  | _ => none
theorem r_appE (i : Nat) (f : Ex) (ρ : Rho) : sApp i f ρ = (xVar i ρ).bind fun l => (f ρ).bind fun d => appD i ρ l d := by
  unfold sApp xVar
  cases h : ρ[i]? with
  | none => rfl
  | some o =>
    cases o with
    | none => rfl
    | some l =>
      cases l <;> try rfl
      all_goals (dsimp only [Option.bind_some]; cases f ρ <;> rfl)
theorem appD_l {i : Nat} {ρ : Rho} {ds : List D} {d : D} (h : ds.length < 1000000) : appD i ρ (.list ds) d = some (.nx (ρ.set i (some (.list (ds ++ [d]))))) := by
  unfold appD
  exact if_pos h
theorem cut_len {α : Type} (ds : List α) (i j : Nat) : ((ds.drop i).take j).length = min j (ds.length - i) := by rw [List.length_take, List.length_drop]
theorem ite_or (p q : Bool) : (if p = true then some (PyData.bool true) else some (PyData.bool q)) = some (PyData.bool (p || q)) := by cases p <;> rfl
theorem ite_and (p q : Bool) : (if p = true then some (PyData.bool q) else some (PyData.bool false)) = some (PyData.bool (p && q)) := by cases p <;> rfl
theorem dAddL' {a b : List D} (h : a.length + b.length ≤ 1000000) : dAdd (.list a) (.list b) = some (.list (a ++ b)) := dAddL h
theorem dAddT' {a b : List D} (h : a.length + b.length ≤ 1000000) : dAdd (.tuple a) (.tuple b) = some (.tuple (a ++ b)) := dAddT h
theorem rng_lab0 (n : Nat) : rng 0 n = (List.range n).map fun (i : Nat) => (PyData.int i) := by
  unfold rng
  exact List.map_congr_left fun i _ => by rw [Int.zero_add]
/-- a comprehension over typed things -/
theorem comp_typed {α : Type} {fi : It1} {vs : List Nat} {tg : Tg} {tst elt : Ex} {ρ : Rho} (as : List α) (f : α → D) (keep : α → Bool) (val : α → D) (h : fi ρ = some (as.map f)) (hl : as.length ≤ 1000000)
    (hs : ∀ a ∈ as, ∃ ρ1, tg (f a) (wipeR ρ vs) = some ρ1 ∧ tst ρ1 = some (.bool (keep a)) ∧ (keep a = true → elt ρ1 = some (val a))) : xComp fi vs tg tst elt ρ = some (.list ((as.filter keep).map val)) := by
  refine r_compL h (by rw [List.length_map]; exact hl) ?_
  clear h hl
  induction as with
  | nil => rfl
  | cons a r ih =>
    obtain ⟨ρ1, h1, h2, h3⟩ := hs a List.mem_cons_self
    have ih := ih fun x hx => hs x (List.mem_cons_of_mem _ hx)
    rw [List.map_cons, compGo, h1]
    dsimp only [Option.bind_some]
    rw [h2]
    cases hk : keep a with
    | true =>
      dsimp only
      rw [h3 hk, ih, List.filter_cons, if_pos hk]
      rfl
    | false =>
      dsimp only
      rw [ih, List.filter_cons, if_neg (by rw [hk]; exact Bool.false_ne_true)]
theorem comp_typed' {α : Type} {fi : It1} {vs : List Nat} {tg : Tg} {elt : Ex} {ρ : Rho} (as : List α) (f : α → D) (val : α → D) (h : fi ρ = some (as.map f)) (hl : as.length ≤ 1000000)
    (hs : ∀ a ∈ as, ∃ ρ1, tg (f a) (wipeR ρ vs) = some ρ1 ∧ elt ρ1 = some (val a)) : xComp fi vs tg xYes elt ρ = some (.list (as.map val)) := by
  have := comp_typed (tst := xYes) as f (fun _ => true) val h hl fun a ha => by
    obtain ⟨ρ1, h1, h2⟩ := hs a ha
    exact ⟨ρ1, h1, rfl, fun _ => h2⟩
  rwa [List.filter_eq_self.mpr fun _ _ => rfl] at this
theorem rng0_map (n : Nat) : rng 0 n = (List.range n).map fun (i : Nat) => (PyData.int i) := rng_lab0 n
theorem r_wipe1 {ρ : Rho} {v : Nat} : wipeR ρ [v] = ρ.set v none := Eq.trans rfl rfl
theorem r_wipe2 {ρ : Rho} {v w : Nat} : wipeR ρ [v, w] = (ρ.set w none).set v none := Eq.trans rfl rfl
theorem r_wipe0 {ρ : Rho} : wipeR ρ [] = ρ := Eq.trans rfl rfl
theorem r_wipe3 {ρ : Rho} {v w u : Nat} : wipeR ρ [v, w, u] = ((ρ.set u none).set w none).set v none := Eq.trans rfl rfl
theorem isi_tt (ds : List D) : dIsi .tuple (.tuple ds) = some (.bool true) := Eq.trans rfl rfl
theorem isi_tl (ds : List D) : dIsi .tuple (.list ds) = some (.bool false) := Eq.trans rfl rfl
theorem isi_ti (i : Int) : dIsi .tuple (.int i) = some (.bool false) := Eq.trans rfl rfl
theorem isi_ii (i : Int) : dIsi .int (.int i) = some (.bool true) := Eq.trans rfl rfl
theorem isi_it (ds : List D) : dIsi .int (.tuple ds) = some (.bool false) := Eq.trans rfl rfl
theorem isi_bb (b : Bool) : dIsi .bool (.bool b) = some (.bool true) := Eq.trans rfl rfl
/-! labels of n spots -/
def labD (n : Nat) (g : Nat → Int) : List D := (List.range n).map fun i => .int (g i)
theorem labD_len (n : Nat) (g : Nat → Int) : (labD n g).length = n := by rw [labD, List.length_map, List.length_range]
theorem rng_lab (n : Nat) : rng 0 n = labD n fun i => i := by
  unfold rng labD
  exact List.map_congr_left fun i _ => by rw [Int.zero_add]
theorem labD_at {n i : Nat} {g : Nat → Int} (h : i < n) : atI (labD n g) i = some (.int (g i)) := by
  apply atI_nat
  rw [labD, List.getElem?_map, List.getElem?_range h]
  rfl
theorem labD_at' {n : Nat} {i : Int} {g : Nat → Int} (h0 : 0 ≤ i) (h : i < n) : atI (labD n g) i = some (.int (g i.toNat)) := by
  have := labD_at (n := n) (i := i.toNat) (g := g) (by omega)
  rwa [Int.toNat_of_nonneg h0] at this
theorem labD_mem {n : Nat} {g : Nat → Int} {d : D} : d ∈ labD n g ↔ ∃ i, i < n ∧ d = .int (g i) := by
  unfold labD
  rw [List.mem_map]
  constructor
  · rintro ⟨i, hi, rfl⟩
    exact ⟨i, List.mem_range.mp hi, rfl⟩
  · rintro ⟨i, hi, rfl⟩
    exact ⟨i, List.mem_range.mpr hi, rfl⟩
theorem labD_congr {n : Nat} {g h : Nat → Int} (e : ∀ i, i < n → g i = h i) : labD n g = labD n h := List.map_congr_left fun i hi => by rw [e i (List.mem_range.mp hi)]
end Tw

set_option Elab.async false
set_option linter.all false
set_option maxRecDepth 100000
set_option maxHeartbeats 1000000
namespace Tw
open PySem PySem.Spec PyProof.Rows L2
local macro_rules | `(tactic| walk_at "run") => `(tactic| simp (disch := (first | omega | (simp only [List.length_map, List.length_append, List.length_cons, List.length_nil, labD_len, rng_lng, cut_len, List.length_drop, List.length_take]; omega))) only [ite_self, at0, at1, at2, isi_tt, isi_tl, isi_ti, isi_ii, isi_it, isi_bb, Bool.not_true, Bool.not_false, Bool.true_or, Bool.false_or, Bool.true_and, Bool.false_and, Bool.and_true, Bool.or_false, Bool.and_false, Bool.or_true, labD_at, r_wipe0, r_wipe1, r_wipe2, r_wipe3, r_appE, appD_l, dAddL', dAddT', ite_or, ite_and, r_run0, r_run1, r_run2, r_run3, r_run4, r_and, r_or, r_if, r_seq, r_1, r_2, r_c, r_call, r_cons, r_nil, r_ret, r_set, r_snil, r_asg, r_on1, r_tup0, r_tup1, r_tup2, r_tup3, r_tup4, r_tup5, r_tup6, r_lst0, r_lst1, r_lst2, r_lst3, r_lst4, r_lst5, r_lst6, r_sl, r_pn, r_ps, r_nm, r_int, r_v0, r_vs, r_rtO,
  andO_b, orO_b, ifO_b, seqO_nx, seqO_rt, seqO_ite, outD_ite, o_bind, o_map, List.map_cons, List.map_nil, List.length_cons, List.length_nil, List.cons_append, List.nil_append, List.set_cons_zero, List.set_cons_succ, Nat.reduceAdd, Nat.reduceSub, Nat.zero_add,
  List.replicate_succ, List.replicate_zero, dAdd_i, dSub_i, dNeg_i, dNot_b, dLt_i, dLe_i, dGt_i, dGe_i, dGeA_i, dMul_i, dMul_j, dDiv_i, dMod_i, dEq_i, dNe_i, dEq_b, dLen_l, dLen_t, dTupOf_l, dTupOf_t, dMin2_i, dMax2_i, dInt1_b, dIx_l, dIx_t, dSl_l, dSl_t, r_gTu2, r_gTu3,
  Bool.false_eq_true, if_true, if_false, eq_self, List.length_map, List.length_replicate])

def isNum (d : D) (lo hi : Int) : Bool := match d with
  | .int i => decide (lo ≤ i) && decide (i ≤ hi)
  | _ => false
def noD : D → Bool
  | .dict _ => false
  | _ => true
theorem num_run (d : D) (lo hi : Int) (h : noD d = true) : G_is_number [d, .int lo, .int hi] = some (.bool (isNum d lo hi)) := by
  unfold G_is_number b_is_number
  cases d with
  | dict _ => cases h
  | int i =>
    walk_at "run"
    rw [r_chainLe (i := lo) (j := i) (k := hi) _ _ _ _ rfl rfl rfl]
    rfl
  | none => rfl
  | bool _ => rfl
  | str _ => rfl
  | list _ => rfl
  | tuple _ => rfl
theorem num_run' (d : D) (lo hi : Int) (h : noD d = true) : G_l_number [d, .int lo, .int hi] = some (.bool (isNum d lo hi)) := num_run d lo hi h
def drawn (n k : Int) : Int :=
  let d := (n + 104729 * k + 17) * 69621 % 2147483647
  (d * d + 3 * d + k) % 2147483629
theorem drawn_range (n k : Int) : 0 ≤ drawn n k ∧ drawn n k < 2147483629 := by
  unfold drawn
  exact ⟨Int.emod_nonneg _ (by decide), Int.emod_lt_of_pos _ (by decide)⟩
theorem drawn_run (n k : Int) : G_l_drawn [.int n, .int k] = some (.int (drawn n k)) := by
  unfold G_l_drawn b_l_drawn
  have h1 : 0 ≤ (n + 104729 * k + 17) * 69621 % 2147483647 := Int.emod_nonneg _ (by decide)
  have h2 : (n + 104729 * k + 17) * 69621 % 2147483647 < 2147483647 := Int.emod_lt_of_pos _ (by decide)
  walk_at "run"
  rfl
def cellAt (ns : List Int) (k : Nat) : Int := ns.getD k 0
theorem cell_run (ns : List Int) (k : Nat) : G_l_cell_at [scrP ns, .int k] = some (.int (cellAt ns k)) := by
  unfold G_l_cell_at b_l_cell_at
  have e : dLen (scrP ns) = some (.int (ns.map PyData.int).length) := rfl
  have e' : dIx (scrP ns) (.int k) = atI (ns.map PyData.int) k := rfl
  rw [List.length_map] at e
  walk_at "run"
  rw [e, e']
  walk_at "run"
  by_cases h : (k : Int) < ns.length
  · rw [decide_eq_true h, if_pos rfl]
    have hk : k < ns.length := by omega
    rw [atI_nat (v := .int (cellAt ns k)) (by rw [List.getElem?_map, List.getElem?_eq_getElem hk, cellAt, List.getD_eq_getElem?_getD, List.getElem?_eq_getElem hk]; rfl)]
    rfl
  · rw [decide_eq_false h, if_neg Bool.false_ne_true]
    have hk : ns.length ≤ k := by omega
    rw [cellAt, List.getD_eq_getElem?_getD, List.getElem?_eq_none hk]
    rfl
def mixed (ns : List Int) (k : Nat) : Int :=
  let d := (cellAt ns k + 7919 * k + 1) * 48271 % 2147483647
  (d * d + 7 * d + k) % 2147483629
theorem mixed_range (ns : List Int) (k : Nat) : 0 ≤ mixed ns k ∧ mixed ns k < 2147483629 := by
  unfold mixed
  exact ⟨Int.emod_nonneg _ (by decide), Int.emod_lt_of_pos _ (by decide)⟩
theorem mixed_run (ns : List Int) (k : Nat) : G_l_mixed [scrP ns, .int k] = some (.int (mixed ns k)) := by
  unfold G_l_mixed b_l_mixed
  have h1 : 0 ≤ (cellAt ns k + 7919 * k + 1) * 48271 % 2147483647 := Int.emod_nonneg _ (by decide)
  have h2 : (cellAt ns k + 7919 * k + 1) * 48271 % 2147483647 < 2147483647 := Int.emod_lt_of_pos _ (by decide)
  walk_at "run"
  rw [cell_run]
  walk_at "run"
  rfl
/-! ### grounds -/
structure Ln where
  a : Int
  b : Int
  w : Int
  deriving DecidableEq
abbrev dLn (l : Ln) : D := .tuple [.int l.a, .int l.b, .int l.w]
abbrev dGr (n : Nat) (ls : List Ln) : D := .tuple [.int n, .tuple (ls.map dLn)]
structure GrOk (n : Nat) (ls : List Ln) (L : Nat) : Prop where
  pos : 1 ≤ n
  le : n ≤ 7
  len : ls.length ≤ L
  ok : ∀ l ∈ ls, 0 ≤ l.a ∧ l.a < l.b ∧ l.b < n ∧ 0 ≤ l.w ∧ l.w ≤ 1000
def LnOk (n : Nat) (l : Ln) : Prop := 0 ≤ l.a ∧ l.a < l.b ∧ l.b < n ∧ 0 ≤ l.w ∧ l.w ≤ 1000
theorem cutD_map {α : Type} (f : α → D) (ds : List α) (lo hi : Option Int) : cutD (ds.map f) lo hi = ((ds.drop (HT.sIx ds.length 0 lo)).take (HT.sIx ds.length ds.length hi - HT.sIx ds.length 0 lo)).map f := by
  unfold cutD
  rw [List.length_map, List.map_take, List.map_drop]
theorem mem_cut {α : Type} {ds : List α} {i j : Nat} {x : α} (h : x ∈ (ds.drop i).take j) : x ∈ ds := List.mem_of_mem_drop (List.mem_of_mem_take h)
theorem cutD_from (ds : List D) (q : Nat) : cutD ds (some (q : Int)) none = ds.drop q := by
  unfold cutD
  have h1 : HT.sIx ds.length ds.length none = ds.length := rfl
  have h2 : HT.sIx ds.length 0 (some (q : Int)) = min q ds.length := HT.sIx_nat _ _ _
  rw [h1, h2]
  by_cases h : q ≤ ds.length
  · rw [Nat.min_eq_left h]
    exact List.take_of_length_le (by rw [List.length_drop]; omega)
  · rw [Nat.min_eq_right (by omega), List.drop_of_length_le (Nat.le_refl _), List.drop_of_length_le (by omega), List.take_nil]
theorem cutD_to (ds : List D) (q : Nat) : cutD ds none (some (q : Int)) = ds.take q := by
  unfold cutD
  have h1 : HT.sIx ds.length ds.length (some (q : Int)) = min q ds.length := HT.sIx_nat _ _ _
  have h2 : HT.sIx ds.length 0 none = 0 := rfl
  rw [h1, h2, List.drop_zero, Nat.sub_zero]
  by_cases h : q ≤ ds.length
  · rw [Nat.min_eq_left h]
  · rw [Nat.min_eq_right (by omega), List.take_of_length_le (Nat.le_refl _), List.take_of_length_le (by omega)]
theorem pair_ok {o n k : Int} (h1 : 0 ≤ o) (h2 : o < n) (h3 : 0 ≤ k) (h4 : k < n - 1) : 0 ≤ (if (o + 1 + k) % n < o then (o + 1 + k) % n else o) ∧ (if (o + 1 + k) % n < o then (o + 1 + k) % n else o) < (if (o + 1 + k) % n > o then (o + 1 + k) % n else o) ∧ (if (o + 1 + k) % n > o then (o + 1 + k) % n else o) < n := by
  have : (o + 1 + k) % n = if o + 1 + k < n then o + 1 + k else o + 1 + k - n := by
    split
    · next h => exact Int.emod_eq_of_lt (by omega) h
    · next h => rw [← Int.sub_emod_right]; exact Int.emod_eq_of_lt (by omega) (by omega)
  rw [this]
  split <;> split <;> split <;> omega
theorem high_ix (i : Int) (h0 : 0 ≤ i) (h : i < 4) : ∃ w : Int, atI [PyData.int 1, .int 3, .int 10, .int 1001] i = some (.int w) ∧ 1 ≤ w ∧ w ≤ 1001 := by
  have : i = 0 ∨ i = 1 ∨ i = 2 ∨ i = 3 := by omega
  rcases this with rfl | rfl | rfl | rfl
  · exact ⟨1, rfl, by omega, by omega⟩
  · exact ⟨3, rfl, by omega, by omega⟩
  · exact ⟨10, rfl, by omega, by omega⟩
  · exact ⟨1001, rfl, by omega, by omega⟩
theorem ground_run (m : Int) (most L : Nat) (hm : 1 ≤ most ∧ most ≤ 7) (hL : 6 ≤ L ∧ L ≤ 30) (h0 : 0 ≤ m) : ∃ n ls, G_l_ground [.int m, .int most, .int L] = some (dGr n ls) ∧ 1 ≤ n ∧ n ≤ most ∧ ls.length ≤ L ∧ ∀ l ∈ ls, LnOk n l := by
  unfold G_l_ground b_l_ground
  have q1 : 0 ≤ m % (most : Int) := Int.emod_nonneg _ (by omega)
  have q2 : m % (most : Int) < most := Int.emod_lt_of_pos _ (by omega)
  obtain ⟨n, hn⟩ : ∃ n : Nat, 1 + m % (most : Int) = n := ⟨(1 + m % (most : Int)).toNat, by omega⟩
  have q3 : 0 ≤ m / 8 % 4 := Int.emod_nonneg _ (by omega)
  have q4 : m / 8 % 4 < 4 := Int.emod_lt_of_pos _ (by omega)
  obtain ⟨hi', e1, e2, e3⟩ := high_ix _ q3 q4
  walk_at "run"
  rw [hn]
  rw [e1]
  walk_at "run"
  generalize e : sFor _ _ _ _ = o
  obtain ⟨ρ', rfl, hp⟩ := for_all e (iR2_i rfl rfl (by omega) (by omega)) (fun i ρ => ∃ ls x6 x9, ρ = [some (.int m), some (.int most), some (.int L), some (.int n), some (.list (ls.map dLn)), some (.int hi'), x6, none, none, x9, none, none] ∧ ls.length ≤ i ∧ ∀ l ∈ ls, LnOk n l)
    ⟨[], none, none, rfl, Nat.le_refl _, fun _ h => by cases h⟩ fun i d ρ hd hp => by
      obtain ⟨ls, x6, x9, rfl, hl, hk⟩ := hp
      obtain ⟨hi, rfl⟩ := rng_ix hd
      refine ⟨_, rfl, ?_⟩
      walk_at "run"
      rw [drawn_run]
      walk_at "run"
      by_cases c : (decide (0 < m / 32 % 3) || decide (0 < drawn m (1 + (i : Int)) % 4)) = true
      · rw [if_pos c]
        refine ⟨_, rfl, ls ++ [⟨drawn m (1 + i) / 4 % (1 + i), 1 + i, drawn m (1 + i) / 64 % hi'⟩], _, _, by rw [List.map_append]; rfl, by rw [List.length_append]; exact Nat.succ_le_succ hl, fun l hm => ?_⟩
        rcases List.mem_append.mp hm with hm | hm
        · exact hk l hm
        · rw [List.mem_singleton.mp hm]
          have a1 : 0 ≤ drawn m (1 + i) / 4 % (1 + i) := Int.emod_nonneg _ (by omega)
          have a2 : drawn m (1 + i) / 4 % (1 + i) < 1 + i := Int.emod_lt_of_pos _ (by omega)
          have a3 : 0 ≤ drawn m (1 + i) / 64 % hi' := Int.emod_nonneg _ (by omega)
          have a4 : drawn m (1 + i) / 64 % hi' < hi' := Int.emod_lt_of_pos _ (by omega)
          exact ⟨a1, a2, by show (1 : Int) + i < n; omega, a3, by show drawn m (1 + i) / 64 % hi' ≤ 1000; omega⟩
      · rw [if_neg c]
        exact ⟨_, rfl, ls, _, _, rfl, Nat.le_succ_of_le hl, hk⟩
  obtain ⟨ls, x6, x9, rfl, hl, hk⟩ := hp
  clear e
  rw [rng_lng] at hl
  have r1 : 0 ≤ m / 96 % ((L : Int) + 1) := Int.emod_nonneg _ (by omega)
  have r2 : m / 96 % ((L : Int) + 1) < L + 1 := Int.emod_lt_of_pos _ (by omega)
  obtain ⟨t, ht⟩ : ∃ t : Nat, m / 96 % ((L : Int) + 1) = t := ⟨(m / 96 % ((L : Int) + 1)).toNat, by omega⟩
  walk_at "run"
  generalize e : sFor _ _ _ _ = o
  obtain ⟨ρ', rfl, hp⟩ := for_all e (iR1_i (n := t) (by walk_at "run"; rw [ht]) (by omega)) (fun i ρ => ∃ ls x6 x7 x9 x10 x11, ρ = [some (.int m), some (.int most), some (.int L), some (.int n), some (.list (ls.map dLn)), some (.int hi'), x6, x7, none, x9, x10, x11] ∧ ls.length ≤ L ∧ ∀ l ∈ ls, LnOk n l)
    ⟨ls, _, _, _, _, _, rfl, by omega, hk⟩ fun i d ρ hd hp => by
      obtain ⟨ls, x6, x7, x9, x10, x11, rfl, hl, hk⟩ := hp
      obtain ⟨hi, rfl⟩ := rng_ix hd
      refine ⟨_, rfl, ?_⟩
      walk_at "run"
      rw [drawn_run]
      walk_at "run"
      by_cases c : (decide ((1 : Int) < n) && decide ((ls.length : Int) < L)) = true
      · rw [if_pos c]
        rw [Bool.and_eq_true, decide_eq_true_eq, decide_eq_true_eq] at c
        walk_at "run"
        generalize hD : drawn m (20 + (0 + (i : Int))) = D
        have a1 : 0 ≤ D % n := Int.emod_nonneg _ (by omega)
        have a2 : D % n < n := Int.emod_lt_of_pos _ (by omega)
        have b1 : 0 ≤ D / 8 % (n - 1) := Int.emod_nonneg _ (by omega)
        have b2 : D / 8 % (n - 1) < n - 1 := Int.emod_lt_of_pos _ (by omega)
        have a3 : 0 ≤ D / 64 % hi' := Int.emod_nonneg _ (by omega)
        have a4 : D / 64 % hi' < hi' := Int.emod_lt_of_pos _ (by omega)
        have hq := pair_ok a1 a2 b1 b2
        refine ⟨_, rfl, ls ++ [⟨_, _, _⟩], _, _, _, _, _, by rw [List.map_append]; rfl, by rw [List.length_append]; show ls.length + 1 ≤ L; omega, fun l hm => ?_⟩
        rcases List.mem_append.mp hm with hm | hm
        · exact hk l hm
        · rw [List.mem_singleton.mp hm]
          exact ⟨hq.1, hq.2.1, hq.2.2, a3, by show D / 64 % hi' ≤ 1000; omega⟩
      · rw [if_neg c]
        exact ⟨_, rfl, ls, _, _, _, _, _, rfl, hl, hk⟩
  obtain ⟨ls, x6, x7, x9, x10, x11, rfl, hl, hk⟩ := hp
  walk_at "run"
  have s1 : 0 ≤ m / 2000 % 13 := Int.emod_nonneg _ (by omega)
  obtain ⟨q, hq⟩ : ∃ q : Nat, m / 2000 % 13 = q := ⟨(m / 2000 % 13).toNat, by omega⟩
  rw [hq, cutD_from, cutD_to, ← List.map_drop, ← List.map_take]
  walk_at "run"
  refine ⟨n, ls.drop q ++ ls.take q, by rw [← List.map_append], by omega, by omega, by rw [List.length_append, List.length_drop, List.length_take]; omega, fun l h => ?_⟩
  rcases List.mem_append.mp h with h | h
  · exact hk l (List.mem_of_mem_drop h)
  · exact hk l (List.mem_of_mem_take h)
end Tw

set_option Elab.async false
set_option linter.all false
set_option maxRecDepth 100000
set_option maxHeartbeats 1000000
namespace Tw
open PySem PySem.Spec PyProof.Rows L2
local macro_rules | `(tactic| walk_at "run") => `(tactic| simp (disch := (first | omega | (simp only [List.length_map, List.length_append, List.length_cons, List.length_nil, labD_len, rng_lng, cut_len, List.length_drop, List.length_take]; omega))) only [ite_self, at0, at1, at2, isi_tt, isi_tl, isi_ti, isi_ii, isi_it, isi_bb, Bool.not_true, Bool.not_false, Bool.true_or, Bool.false_or, Bool.true_and, Bool.false_and, Bool.and_true, Bool.or_false, Bool.and_false, Bool.or_true, labD_at, r_wipe0, r_wipe1, r_wipe2, r_wipe3, r_appE, appD_l, dAddL', dAddT', ite_or, ite_and, r_run0, r_run1, r_run2, r_run3, r_run4, r_and, r_or, r_if, r_seq, r_1, r_2, r_c, r_call, r_cons, r_nil, r_ret, r_set, r_snil, r_asg, r_on1, r_tup0, r_tup1, r_tup2, r_tup3, r_tup4, r_tup5, r_tup6, r_lst0, r_lst1, r_lst2, r_lst3, r_lst4, r_lst5, r_lst6, r_sl, r_pn, r_ps, r_nm, r_int, r_v0, r_vs, r_rtO,
  andO_b, orO_b, ifO_b, seqO_nx, seqO_rt, seqO_ite, outD_ite, o_bind, o_map, List.map_cons, List.map_nil, List.length_cons, List.length_nil, List.cons_append, List.nil_append, List.set_cons_zero, List.set_cons_succ, Nat.reduceAdd, Nat.reduceSub, Nat.zero_add,
  List.replicate_succ, List.replicate_zero, dAdd_i, dSub_i, dNeg_i, dNot_b, dLt_i, dLe_i, dGt_i, dGe_i, dGeA_i, dMul_i, dMul_j, dDiv_i, dMod_i, dEq_i, dNe_i, dEq_b, dLen_l, dLen_t, dTupOf_l, dTupOf_t, dMin2_i, dMax2_i, dInt1_b, dIx_l, dIx_t, dSl_l, dSl_t, r_gTu2, r_gTu3,
  Bool.false_eq_true, if_true, if_false, eq_self, List.length_map, List.length_replicate])

/-! ### groups -/
def stP (g : Nat → Int) (a b : Nat) : Nat → Int := fun i => if g i = (if g b > g a then g b else g a) then (if g b < g a then g b else g a) else g i
def stL (g : Nat → Int) (a b : Nat) : Nat → Int := fun i => if g i = g b then g a else g i
abbrev dPn (p : Nat × Nat) : D := .tuple [.int p.1, .int p.2]
def lbP (ps : List (Nat × Nat)) : Nat → Int := ps.foldl (fun g p => stP g p.1 p.2) fun i => i
def lbL (ps : List (Nat × Nat)) : Nat → Int := ps.foldl (fun g p => stL g p.1 p.2) fun i => i
structure LbOk (n : Nat) (g : Nat → Int) : Prop where
  lo : ∀ i, i < n → 0 ≤ g i
  le : ∀ i, i < n → g i ≤ i
  fix : ∀ i, i < n → g (g i).toNat = g i
def PsOk (n : Nat) (ps : List (Nat × Nat)) : Prop := ∀ p ∈ ps, p.1 < n ∧ p.2 < n
theorem stP_ok {n : Nat} {g : Nat → Int} (h : LbOk n g) {a b : Nat} (ha : a < n) (hb : b < n) : LbOk n (stP g a b) := by
  have h1 := h.lo a ha
  have h2 := h.lo b hb
  have h3 := h.le a ha
  have h4 := h.le b hb
  have h5 := h.fix a ha
  have h6 := h.fix b hb
  refine ⟨fun i hi => ?_, fun i hi => ?_, fun i hi => ?_⟩
  · have := h.lo i hi
    unfold stP
    repeat' split
    all_goals omega
  · have := h.le i hi
    unfold stP
    repeat' split
    all_goals omega
  · have q1 := h.lo i hi
    have q2 := h.le i hi
    have q3 := h.fix i hi
    by_cases c : g i = (if g b > g a then g b else g a)
    · have e : stP g a b i = if g b < g a then g b else g a := if_pos c
      rw [e]
      by_cases d : g b < g a
      · rw [if_pos d]
        unfold stP
        rw [h6, if_pos d, if_neg (by omega : ¬ g b > g a), if_neg (by omega)]
      · rw [if_neg d]
        unfold stP
        rw [h5, if_neg d, ite_self]
    · have e : stP g a b i = g i := if_neg c
      rw [e]
      unfold stP
      rw [q3, if_neg c]
theorem lb_ok {n : Nat} : ∀ {ps : List (Nat × Nat)} {g : Nat → Int}, PsOk n ps → LbOk n g → LbOk n (ps.foldl (fun g p => stP g p.1 p.2) g)
  | [], g, _, h => h
  | p :: r, g, hp, h => lb_ok (ps := r) (fun q hq => hp q (List.mem_cons_of_mem _ hq)) (stP_ok h (hp p List.mem_cons_self).1 (hp p List.mem_cons_self).2)
theorem id_ok (n : Nat) : LbOk n fun i => (i : Int) := ⟨fun _ _ => by omega, fun _ _ => Int.le_refl _, fun i _ => by simp⟩
theorem lbP_ok {n : Nat} {ps : List (Nat × Nat)} (h : PsOk n ps) : LbOk n (lbP ps) := lb_ok h (id_ok n)
/-- two labellings, one partition -/
def Same (n : Nat) (g h : Nat → Int) : Prop := ∀ i j, i < n → j < n → (g i = g j ↔ h i = h j)
theorem st_same {n : Nat} {g h : Nat → Int} (e : Same n g h) {a b : Nat} (ha : a < n) (hb : b < n) : Same n (stP g a b) (stL h a b) := by
  intro i j hi hj
  have e1 := e i j hi hj
  have e2 := e i a hi ha
  have e3 := e i b hi hb
  have e4 := e j a hj ha
  have e5 := e j b hj hb
  have e6 := e a b ha hb
  unfold stP stL
  have k : ∀ x, (if x = (if g b > g a then g b else g a) then (if g b < g a then g b else g a) else x) = if x = g a ∨ x = g b then (if g b < g a then g b else g a) else x := by
    intro x
    repeat' split
    all_goals omega
  rw [k, k]
  repeat' split
  all_goals omega
theorem same_all {n : Nat} : ∀ {ps : List (Nat × Nat)} {g h : Nat → Int}, PsOk n ps → Same n g h → Same n (ps.foldl (fun g p => stP g p.1 p.2) g) (ps.foldl (fun g p => stL g p.1 p.2) h)
  | [], _, _, _, e => e
  | p :: r, _, _, hp, e => same_all (ps := r) (fun q hq => hp q (List.mem_cons_of_mem _ hq)) (st_same e (hp p List.mem_cons_self).1 (hp p List.mem_cons_self).2)
theorem lb_same {n : Nat} {ps : List (Nat × Nat)} (h : PsOk n ps) : Same n (lbP ps) (lbL ps) := same_all h fun _ _ _ _ => Iff.rfl
/-- the classes -/
def cls (n : Nat) (g : Nat → Int) (i : Nat) : List Nat := (List.range n).filter fun j => decide (g j = g i)
def reps (n : Nat) (g : Nat → Int) : List Nat := (List.range n).filter fun i => decide (g i = i)
abbrev dNs (l : List Nat) : D := .tuple (l.map fun (j : Nat) => PyData.int j)
def grpD (n : Nat) (g : Nat → Int) : D := .tuple ((reps n g).map fun i => dNs (cls n g i))
theorem foldl_take {α β : Type} (f : β → α → β) (b : β) : ∀ (l : List α) (i : Nat) (x : α), l[i]? = some x → (l.take (i + 1)).foldl f b = f ((l.take i).foldl f b) x
  | [], i, x, h => by cases h
  | y :: r, 0, x, h => by cases h; rfl
  | y :: r, i + 1, x, h => by
    rw [List.take_succ_cons, List.take_succ_cons]
    exact foldl_take f (f b y) r i x h
theorem groups_run (n : Nat) (S : D) (ps : List (Nat × Nat)) (hn : n < 64) (hS : S = .list (ps.map dPn) ∨ S = .tuple (ps.map dPn)) (hp : PsOk n ps) : G_groups_of [.int n, S] = some (grpD n (lbP ps)) := by
  unfold G_groups_of b_groups_of
  walk_at "run"
  rw [xLR_i (n := n) rfl (by omega), rng_lab]
  walk_at "run"
  generalize e : sFor _ _ _ _ = o
  obtain ⟨ρ', rfl, hq⟩ := for_all e (ds := ps.map dPn) (by rcases hS with h | h <;> rw [h] <;> rfl) (fun i ρ => ∃ x3 x4 x5 x6, ρ = [some (.int n), some S, some (.list (labD n ((ps.take i).foldl (fun g p => stP g p.1 p.2) fun i => (i : Int)))), x3, x4, x5, x6, none, none])
    ⟨_, _, _, _, rfl⟩ fun i d ρ hd hq => by
      obtain ⟨x3, x4, x5, x6, rfl⟩ := hq
      rw [List.getElem?_map] at hd
      cases hd' : ps[i]? with
      | none => rw [hd'] at hd; cases hd
      | some p =>
        rw [hd'] at hd
        obtain rfl : dPn p = d := Option.some.inj hd
        have hpi := hp p (List.mem_of_getElem? hd')
        refine ⟨_, r_gTu2, ?_⟩
        rw [foldl_take _ _ _ _ _ hd']
        generalize (ps.take i).foldl (fun g p => stP g p.1 p.2) (fun i => (i : Int)) = g
        walk_at "run"
        rw [comp_typed' (List.range n) (fun i => .int (g i)) (fun i => .int (stP g p.1 p.2 i)) ?_ ?_ fun a ha => ?_]
        · walk_at "run"
          exact ⟨_, rfl, _, _, _, _, rfl⟩
        · rfl
        · rw [List.length_range]; omega
        · refine ⟨_, rfl, ?_⟩
          walk_at "run"
          unfold stP
          by_cases c : g a = if g p.2 > g p.1 then g p.2 else g p.1
          · rw [if_pos c, decide_eq_true c, if_pos rfl]
            rfl
          · rw [if_neg c, decide_eq_false c, if_neg Bool.false_ne_true]
            rfl
  obtain ⟨x3, x4, x5, x6, rfl⟩ := hq
  rw [List.length_map, List.take_length]
  show outD (seqO (some (.nx [some (.int n), some S, some (.list (labD n (lbP ps))), x3, x4, x5, x6, none, none])) _) = _
  have ok := lbP_ok hp
  generalize lbP ps = g at ok
  have e1 : dSortSet (.list (labD n g)) = some (.list ((reps n g).map fun (i : Nat) => PyData.int i)) := by
    have : labD n g = ((List.range n).map g).map PyData.int := by rw [List.map_map]; rfl
    unfold dSortSet
    show (intsOf (labD n g)).bind _ = _
    rw [this, intsOf_map, o_bind, if_pos (by rw [List.length_map, List.length_range]; exact hn)]
    have : sortU ((List.range n).map g) = (reps n g).map fun (i : Nat) => (i : Int) := by
      refine rising_eq (sortU_sorted _) ?_ fun k => ?_
      · unfold reps
        exact List.Pairwise.map _ (fun a b h => by omega) (List.Pairwise.filter _ List.pairwise_lt_range)
      · rw [sortU_mem, List.mem_map, List.mem_map]
        constructor
        · rintro ⟨i, hi, rfl⟩
          have hi := List.mem_range.mp hi
          have a1 := ok.lo i hi
          have a2 := ok.le i hi
          have a3 := ok.fix i hi
          refine ⟨(g i).toNat, ?_, by omega⟩
          unfold reps
          rw [List.mem_filter, List.mem_range, decide_eq_true_eq]
          exact ⟨by omega, by omega⟩
        · rintro ⟨i, hi, rfl⟩
          unfold reps at hi
          rw [List.mem_filter, decide_eq_true_eq] at hi
          exact ⟨i, hi.1, hi.2⟩
    rw [this, List.map_map]
    rfl
  walk_at "run"
  rw [comp_typed' (reps n g) (fun (i : Nat) => PyData.int i) (fun i => dNs (cls n g i)) ?_ ?_ fun a ha => ?_]
  · walk_at "run"
    rfl
  · exact iSeq_l (by walk_at "run"; rw [e1])
  · have : (reps n g).length ≤ n := by
      have := List.length_filter_le (fun i => decide (g i = (i : Int))) (List.range n)
      rwa [List.length_range] at this
    omega
  · refine ⟨_, rfl, ?_⟩
    have ha : g a = a := by
      unfold reps at ha
      rw [List.mem_filter, decide_eq_true_eq] at ha
      exact ha.2
    walk_at "run"
    rw [comp_typed (List.range n) (fun (i : Nat) => PyData.int i) (fun j => decide (g j = g a)) (fun (i : Nat) => PyData.int i) ?_ ?_ fun j hj => ?_]
    · walk_at "run"
      rfl
    · rw [iR1_i (n := n) rfl (by omega), rng_lab0]
    · rw [List.length_range]; omega
    · refine ⟨_, rfl, ?_, fun _ => rfl⟩
      walk_at "run"
      rw [labD_at (List.mem_range.mp hj)]
      walk_at "run"
      rw [ha]
end Tw

set_option Elab.async false
set_option linter.all false
set_option maxRecDepth 100000
set_option maxHeartbeats 1000000
namespace Tw
open PySem PySem.Spec PyProof.Rows L2
local macro_rules | `(tactic| walk_at "run") => `(tactic| simp (disch := (first | omega | (simp only [List.length_map, List.length_append, List.length_cons, List.length_nil, labD_len, rng_lng, cut_len, List.length_drop, List.length_take]; omega))) only [ite_self, at0, at1, at2, isi_tt, isi_tl, isi_ti, isi_ii, isi_it, isi_bb, Bool.not_true, Bool.not_false, Bool.true_or, Bool.false_or, Bool.true_and, Bool.false_and, Bool.and_true, Bool.or_false, Bool.and_false, Bool.or_true, labD_at, r_wipe0, r_wipe1, r_wipe2, r_wipe3, r_appE, appD_l, dAddL', dAddT', ite_or, ite_and, r_run0, r_run1, r_run2, r_run3, r_run4, r_and, r_or, r_if, r_seq, r_1, r_2, r_c, r_call, r_cons, r_nil, r_ret, r_set, r_snil, r_asg, r_on1, r_tup0, r_tup1, r_tup2, r_tup3, r_tup4, r_tup5, r_tup6, r_lst0, r_lst1, r_lst2, r_lst3, r_lst4, r_lst5, r_lst6, r_sl, r_pn, r_ps, r_nm, r_int, r_v0, r_vs, r_rtO,
  andO_b, orO_b, ifO_b, seqO_nx, seqO_rt, seqO_ite, outD_ite, o_bind, o_map, List.map_cons, List.map_nil, List.length_cons, List.length_nil, List.cons_append, List.nil_append, List.set_cons_zero, List.set_cons_succ, Nat.reduceAdd, Nat.reduceSub, Nat.zero_add,
  List.replicate_succ, List.replicate_zero, dAdd_i, dSub_i, dNeg_i, dNot_b, dLt_i, dLe_i, dGt_i, dGe_i, dGeA_i, dMul_i, dMul_j, dDiv_i, dMod_i, dEq_i, dNe_i, dEq_b, dLen_l, dLen_t, dTupOf_l, dTupOf_t, dMin2_i, dMax2_i, dInt1_b, dIx_l, dIx_t, dSl_l, dSl_t, r_gTu2, r_gTu3,
  Bool.false_eq_true, if_true, if_false, eq_self, List.length_map, List.length_replicate])
/-! ### data that may be compared -/
theorem can_all {ds : List D} (h : ∀ d ∈ ds, d.canLay0 = true) : PyData.canLayAll0 ds = true := by
  induction ds with
  | nil => rw [PyData.canLayAll0]
  | cons d r ih => rw [PyData.canLayAll0, h d List.mem_cons_self, ih fun x hx => h x (List.mem_cons_of_mem _ hx)]; rfl
theorem dep_all {ds : List D} {k : Nat} (h : ∀ d ∈ ds, d.depth ≤ k) : PyData.depthAll ds ≤ k := by
  induction ds with
  | nil => rw [PyData.depthAll]; omega
  | cons d r ih =>
    rw [PyData.depthAll]
    have := h d List.mem_cons_self
    have := ih fun x hx => h x (List.mem_cons_of_mem _ hx)
    omega
/-- good to depth k -/
def Shp (k : Nat) (d : D) : Prop := d.canLay0 = true ∧ d.depth ≤ k
theorem Shp.ok {k : Nat} {d : D} (h : Shp k d) (hk : k ≤ 64) : SeqAt.shaped d = true := by
  unfold SeqAt.shaped
  rw [h.1, decide_eq_true (Nat.le_trans h.2 hk)]
  rfl
theorem shp_int (i : Int) : Shp 0 (.int i) := ⟨rfl, Nat.le_refl _⟩
theorem shp_list {k : Nat} {ds : List D} (h : ∀ d ∈ ds, Shp k d) : Shp (k + 1) (.list ds) := by
  constructor
  · rw [PyData.canLay0]; exact can_all fun d hd => (h d hd).1
  · rw [PyData.depth]; exact Nat.succ_le_succ (dep_all fun d hd => (h d hd).2)
theorem shp_tuple {k : Nat} {ds : List D} (h : ∀ d ∈ ds, Shp k d) : Shp (k + 1) (.tuple ds) := by
  constructor
  · rw [PyData.canLay0]; exact can_all fun d hd => (h d hd).1
  · rw [PyData.depth]; exact Nat.succ_le_succ (dep_all fun d hd => (h d hd).2)
theorem Shp.mono {j k : Nat} {d : D} (h : Shp j d) (hk : j ≤ k) : Shp k d := ⟨h.1, Nat.le_trans h.2 hk⟩
abbrev lNs (l : List Nat) : D := .list (l.map fun (j : Nat) => PyData.int j)
theorem shp_lNs (l : List Nat) : Shp 1 (lNs l) := shp_list fun d hd => by
  obtain ⟨j, _, rfl⟩ := List.mem_map.mp hd
  exact shp_int _
theorem shp_dNs (l : List Nat) : Shp 1 (dNs l) := shp_tuple fun d hd => by
  obtain ⟨j, _, rfl⟩ := List.mem_map.mp hd
  exact shp_int _
theorem eqv_ints : ∀ a b : List Nat, PyData.eqvAll (a.map fun (j : Nat) => PyData.int j) (b.map fun (j : Nat) => PyData.int j) = decide (a = b)
  | [], [] => by rw [List.map_nil, PyData.eqvAll]; rfl
  | [], _ :: _ => by rw [List.map_nil, List.map_cons, PyData.eqvAll]; rfl
  | _ :: _, [] => by rw [List.map_nil, List.map_cons, PyData.eqvAll]; rfl
  | x :: r, y :: s => by
    rw [List.map_cons, List.map_cons, PyData.eqvAll, eqv_ints r s, PyData.eqv]
    by_cases h : x = y
    · subst h
      simp
    · have : ¬ ((x : Int) = y) := by omega
      simp [h, this]
theorem eqv_lNs (a b : List Nat) : PyData.eqv (lNs a) (lNs b) = decide (a = b) := by
  unfold lNs
  rw [PyData.eqv]
  exact eqv_ints a b
theorem cls_same {n : Nat} {g h : Nat → Int} (e : Same n g h) {i : Nat} (hi : i < n) : cls n h i = cls n g i := by
  unfold cls
  refine List.filter_congr fun j hj => ?_
  have := e j i (List.mem_range.mp hj) hi
  exact decide_eq_decide.mpr this.symm
theorem cls_mem {n : Nat} {g : Nat → Int} {i j : Nat} : j ∈ cls n g i ↔ j < n ∧ g j = g i := by
  unfold cls
  rw [List.mem_filter, List.mem_range, decide_eq_true_eq]
theorem reps_mem {n : Nat} {g : Nat → Int} {i : Nat} : i ∈ reps n g ↔ i < n ∧ g i = i := by
  unfold reps
  rw [List.mem_filter, List.mem_range, decide_eq_true_eq]
theorem reps_succ (k : Nat) (g : Nat → Int) : reps (k + 1) g = if g k = k then reps k g ++ [k] else reps k g := by
  unfold reps
  rw [List.range_succ, List.filter_append]
  by_cases h : g k = k
  · rw [if_pos h]
    simp [h]
  · rw [if_neg h]
    simp [h]
theorem seen {n k : Nat} {g : Nat → Int} (ok : LbOk n g) (hk : k < n) : (∃ i ∈ reps k g, cls n g i = cls n g k) ↔ g k ≠ k := by
  constructor
  · rintro ⟨i, hi, e⟩ h
    have ⟨h1, h2⟩ := reps_mem.mp hi
    have : i ∈ cls n g k := by rw [← e]; exact cls_mem.mpr ⟨by omega, rfl⟩
    have := (cls_mem.mp this).2
    omega
  · intro h
    have a1 := ok.lo k hk
    have a2 := ok.le k hk
    have a3 := ok.fix k hk
    refine ⟨(g k).toNat, reps_mem.mpr ⟨by omega, by omega⟩, ?_⟩
    unfold cls
    rw [a3]
theorem l_groups_run (n : Nat) (S : D) (ps : List (Nat × Nat)) (hn : n < 64) (hS : S = .list (ps.map dPn) ∨ S = .tuple (ps.map dPn)) (hp : PsOk n ps) : G_l_groups [.int n, S] = some (grpD n (lbP ps)) := by
  unfold G_l_groups b_l_groups
  walk_at "run"
  rw [xLR_i (n := n) rfl (by omega), rng_lab]
  walk_at "run"
  generalize e : sFor _ _ _ _ = o
  obtain ⟨ρ', rfl, hq⟩ := for_all e (ds := ps.map dPn) (by rcases hS with h | h <;> rw [h] <;> rfl) (fun i ρ => ∃ x5 x6 x7, ρ = [some (.int n), some S, some (.list (labD n ((ps.take i).foldl (fun g p => stL g p.1 p.2) fun i => (i : Int)))), none, none, x5, x6, x7, none, none])
    ⟨_, _, _, rfl⟩ fun i d ρ hd hq => by
      obtain ⟨x5, x6, x7, rfl⟩ := hq
      rw [List.getElem?_map] at hd
      cases hd' : ps[i]? with
      | none => rw [hd'] at hd; cases hd
      | some p =>
        rw [hd'] at hd
        obtain rfl : dPn p = d := Option.some.inj hd
        have hpi := hp p (List.mem_of_getElem? hd')
        refine ⟨_, r_gTu2, ?_⟩
        rw [foldl_take _ _ _ _ _ hd']
        generalize (ps.take i).foldl (fun g p => stL g p.1 p.2) (fun i => (i : Int)) = g
        walk_at "run"
        rw [comp_typed' (List.range n) (fun i => .int (g i)) (fun i => .int (stL g p.1 p.2 i)) ?_ ?_ fun a ha => ?_]
        · walk_at "run"
          exact ⟨_, rfl, _, _, _, rfl⟩
        · rfl
        · rw [List.length_range]; omega
        · refine ⟨_, rfl, ?_⟩
          walk_at "run"
          unfold stL
          by_cases c : g a = g p.2
          · rw [if_pos c, decide_eq_true c, if_pos rfl]
            rfl
          · rw [if_neg c, decide_eq_false c, if_neg Bool.false_ne_true]
            rfl
  obtain ⟨x5, x6, x7, rfl⟩ := hq
  rw [List.length_map, List.take_length]
  show outD (seqO (some (.nx [some (.int n), some S, some (.list (labD n (lbL ps))), none, none, x5, x6, x7, none, none])) _) = _
  have ok := lbP_ok hp
  have sm := lb_same hp
  clear e
  generalize lbP ps = g at ok sm
  generalize lbL ps = h at sm
  walk_at "run"
  generalize e : sFor _ _ _ _ = o
  obtain ⟨ρ', rfl, hq⟩ := for_all e (iR1_i (n := n) rfl (by omega)) (fun k ρ => ∃ x4 x6 x8, ρ = [some (.int n), some S, some (.list (labD n h)), some (.list ((reps k g).map fun i => lNs (cls n g i))), x4, x5, x6, x7, x8, none])
    ⟨_, _, _, rfl⟩ fun k d ρ hd hq => by
      obtain ⟨x4, x6, x8, rfl⟩ := hq
      obtain ⟨hk, rfl⟩ := rng_ix hd
      refine ⟨_, rfl, ?_⟩
      walk_at "run"
      rw [Int.zero_add]
      rw [comp_typed (List.range n) (fun (i : Nat) => PyData.int i) (fun j => decide (h j = h k)) (fun (i : Nat) => PyData.int i) ?_ ?_ fun j hj => ?_]
      · have e2 : (List.range n).filter (fun j => decide (h j = h k)) = cls n g k := cls_same sm hk
        rw [e2]
        walk_at "run"
        have hr : (reps k g).length ≤ k := by
          have := List.length_filter_le (fun i => decide (g i = (i : Int))) (List.range k)
          rwa [List.length_range] at this
        have e3 : dIn true (lNs (cls n g k)) (.list ((reps k g).map fun i => lNs (cls n g i))) = some (.bool (decide (g k = k))) := by
          unfold dIn
          show (if _ then _ else _) = _
          rw [if_pos ⟨(shp_lNs _).ok (by omega), (shp_list (k := 1) fun d hd => by
            obtain ⟨i, _, rfl⟩ := List.mem_map.mp hd
            exact shp_lNs _).ok (by omega)⟩]
          refine congrArg (fun b => some (PyData.bool b)) ?_
          have := seen ok hk
          by_cases c : g k = k
          · rw [decide_eq_true c]
            have : ((reps k g).map fun i => lNs (cls n g i)).any (fun z => PyData.eqv z (lNs (cls n g k))) = false := by
              rw [List.any_eq_false]
              intro z hz
              obtain ⟨i, hi, rfl⟩ := List.mem_map.mp hz
              rw [eqv_lNs, decide_eq_true_eq]
              intro q
              exact (this.mp ⟨i, hi, q⟩) c
            rw [this]
            rfl
          · rw [decide_eq_false c]
            obtain ⟨i, hi, q⟩ := this.mpr c
            have : ((reps k g).map fun i => lNs (cls n g i)).any (fun z => PyData.eqv z (lNs (cls n g k))) = true := by
              rw [List.any_eq_true]
              exact ⟨_, List.mem_map.mpr ⟨i, hi, rfl⟩, by rw [eqv_lNs, q, decide_eq_true rfl]⟩
            rw [this]
            rfl
        rw [e3]
        walk_at "run"
        by_cases c : g k = k
        · rw [if_pos (decide_eq_true c), reps_succ, if_pos c, List.map_append]
          exact ⟨_, rfl, _, _, _, rfl⟩
        · rw [decide_eq_false c, if_neg Bool.false_ne_true, reps_succ, if_neg c]
          exact ⟨_, rfl, _, _, _, rfl⟩
      · rw [iR1_i (n := n) rfl (by omega), rng_lab0]
      · rw [List.length_range]; omega
      · have hj := List.mem_range.mp hj
        refine ⟨_, rfl, ?_, fun _ => rfl⟩
        walk_at "run"
  obtain ⟨x4, x6, x8, rfl⟩ := hq
  rw [rng_lng]
  walk_at "run"
  rw [comp_typed' (reps n g) (fun i => lNs (cls n g i)) (fun i => dNs (cls n g i)) ?_ ?_ fun a ha => ?_]
  · walk_at "run"
    rfl
  · rfl
  · have : (reps n g).length ≤ n := by
      have := List.length_filter_le (fun i => decide (g i = (i : Int))) (List.range n)
      rwa [List.length_range] at this
    omega
  · refine ⟨_, rfl, ?_⟩
    walk_at "run"
end Tw

set_option Elab.async false
set_option linter.all false
set_option maxRecDepth 100000
set_option maxHeartbeats 1000000
namespace Tw
open PySem PySem.Spec PyProof.Rows L2
local macro_rules | `(tactic| walk_at "run") => `(tactic| simp (disch := (first | omega | (simp only [List.length_map, List.length_append, List.length_cons, List.length_nil, labD_len, rng_lng, cut_len, List.length_drop, List.length_take]; omega))) only [ite_self, at0, at1, at2, isi_tt, isi_tl, isi_ti, isi_ii, isi_it, isi_bb, Bool.not_true, Bool.not_false, Bool.true_or, Bool.false_or, Bool.true_and, Bool.false_and, Bool.and_true, Bool.or_false, Bool.and_false, Bool.or_true, labD_at, r_wipe0, r_wipe1, r_wipe2, r_wipe3, r_appE, appD_l, dAddL', dAddT', ite_or, ite_and, r_run0, r_run1, r_run2, r_run3, r_run4, r_and, r_or, r_if, r_seq, r_1, r_2, r_c, r_call, r_cons, r_nil, r_ret, r_set, r_snil, r_asg, r_on1, r_tup0, r_tup1, r_tup2, r_tup3, r_tup4, r_tup5, r_tup6, r_lst0, r_lst1, r_lst2, r_lst3, r_lst4, r_lst5, r_lst6, r_sl, r_pn, r_ps, r_nm, r_int, r_v0, r_vs, r_rtO,
  andO_b, orO_b, ifO_b, seqO_nx, seqO_rt, seqO_ite, outD_ite, o_bind, o_map, List.map_cons, List.map_nil, List.length_cons, List.length_nil, List.cons_append, List.nil_append, List.set_cons_zero, List.set_cons_succ, Nat.reduceAdd, Nat.reduceSub, Nat.zero_add,
  List.replicate_succ, List.replicate_zero, dAdd_i, dSub_i, dNeg_i, dNot_b, dLt_i, dLe_i, dGt_i, dGe_i, dGeA_i, dMul_i, dMul_j, dDiv_i, dMod_i, dEq_i, dNe_i, dEq_b, dLen_l, dLen_t, dTupOf_l, dTupOf_t, dMin2_i, dMax2_i, dInt1_b, dIx_l, dIx_t, dSl_l, dSl_t, r_gTu2, r_gTu3,
  Bool.false_eq_true, if_true, if_false, eq_self, List.length_map, List.length_replicate])
/-! ### data of small size -/
def flat (B : Nat) : D → Prop
  | .none => True
  | .bool _ => True
  | .int i => i.natAbs ≤ B
  | .str z => PyData.strOk z = true
  | _ => False
def Gd (L B : Nat) : Nat → D → Prop
  | 0, d => flat B d
  | k + 1, d => flat B d ∨ ∃ ds, (d = .list ds ∨ d = .tuple ds) ∧ ds.length ≤ L ∧ ∀ x ∈ ds, Gd L B k x
theorem flat_shp {B : Nat} {d : D} (h : flat B d) : Shp 0 d := by
  cases d <;> try exact ⟨rfl, Nat.le_refl _⟩
  · exact ⟨by rw [PyData.canLay0]; exact h, Nat.le_refl _⟩
  all_goals exact absurd h id
theorem Gd.shp {L B : Nat} : ∀ {k : Nat} {d : D}, Gd L B k d → Shp k d
  | 0, d, h => flat_shp h
  | k + 1, d, h => by
    rcases h with h | ⟨ds, h | h, _, h2⟩
    · exact (flat_shp h).mono (by omega)
    · rw [h]; exact shp_list fun x hx => Gd.shp (h2 x hx)
    · rw [h]; exact shp_tuple fun x hx => Gd.shp (h2 x hx)
theorem Gd.flat' {L B : Nat} {d : D} (h : flat B d) : ∀ k, Gd L B k d
  | 0 => h
  | k + 1 => .inl h
theorem Gd.mono {L B L' B' : Nat} (hL : L ≤ L') (hB : B ≤ B') : ∀ {j k : Nat} {d : D}, j ≤ k → Gd L B j d → Gd L' B' k d
  | 0, k, d, _, h => Gd.flat' (by cases d <;> first | exact h | exact Nat.le_trans h hB) k
  | j + 1, 0, d, hk, h => absurd hk (by omega)
  | j + 1, k + 1, d, hk, h => by
    rcases h with h | ⟨ds, h1, h2, h3⟩
    · exact Gd.flat' (by cases d <;> first | exact h | exact Nat.le_trans h hB) _
    · exact .inr ⟨ds, h1, Nat.le_trans h2 hL, fun x hx => Gd.mono hL hB (by omega) (h3 x hx)⟩
theorem Gd.noD {L B k : Nat} {d : D} (h : Gd L B k d) : noD d = true := by
  cases d <;> try rfl
  have := h.shp.1
  rw [PyData.canLay0] at this
  cases this
theorem Gd.tup {L B k : Nat} {ds : List D} (h : Gd L B (k + 1) (.tuple ds)) : ds.length ≤ L ∧ ∀ x ∈ ds, Gd L B k x := by
  rcases h with h | ⟨es, h | h, h2, h3⟩
  · exact absurd h id
  · cases h
  · cases h; exact ⟨h2, h3⟩
theorem dAll_map {α : Type} (as : List α) (p : α → Bool) : dAll (.list (as.map fun a => .bool (p a))) = some (.bool (as.all p)) := by
  have : as.map (fun a => PyData.bool (p a)) = (as.map p).map PyData.bool := by rw [List.map_map]; rfl
  unfold dAll
  rw [this]
  show (boolsOf _).map _ = _
  rw [boolsOf_map, o_map, List.all_map]
  rfl
theorem dNe_nil {ds : List D} (h : ∀ d ∈ ds, Shp 60 d) : dNe (.list ds) (.list []) = some (.bool (!ds.isEmpty)) := by
  unfold dNe
  rw [if_pos ⟨(shp_list h).ok (by omega), rfl⟩, PyData.eqv]
  cases ds with
  | nil => rw [PyData.eqvAll]; rfl
  | cons d r => rw [PyData.eqvAll]; rfl
theorem ne_nil_ints (l : List Int) : dNe (.list (l.map .int)) (.list []) = some (.bool (!l.isEmpty)) := by
  rw [dNe_nil fun d hd => by
    obtain ⟨i, _, rfl⟩ := List.mem_map.mp hd
    exact (shp_int i).mono (by omega)]
  cases l <;> rfl
/-! chains -/
def zipped {α : Type} : List α → List (α × α)
  | a :: b :: r => (a, b) :: zipped (b :: r)
  | _ => []
theorem zip_cut {α : Type} (f : α → D) (as : List α) : zipD (cutD (as.map f) none (some (-1))) (cutD (as.map f) (some 1) none) = (zipped as).map fun p => .tuple [f p.1, f p.2] := by
  have h1 : cutD (as.map f) none (some (-1)) = (as.map f).take (as.length - 1) := by
    unfold cutD
    rw [List.length_map]
    have h2 : HT.sIx as.length 0 none = 0 := rfl
    have h3 : HT.sIx as.length as.length (some (-1)) = as.length - 1 := by
      show (if (-1 : Int) < 0 then ((-1 : Int) + (as.length : Int)).toNat else min (-1 : Int).toNat as.length) = _
      rw [if_pos (by omega)]
      omega
    rw [h2, h3, List.drop_zero, Nat.sub_zero]
  have h2 : cutD (as.map f) (some 1) none = (as.map f).drop 1 := cutD_from (as.map f) 1
  rw [h1, h2]
  clear h1 h2
  induction as with
  | nil => rfl
  | cons a r ih =>
    cases r with
    | nil => rfl
    | cons b s =>
      have : zipD (((b :: s).map f).take ((b :: s).length - 1)) (((b :: s).map f).drop 1) = (zipped (b :: s)).map fun p => .tuple [f p.1, f p.2] := ih
      simp only [List.map_cons, List.length_cons, Nat.add_sub_cancel, List.take_succ_cons, List.drop_succ_cons, List.drop_zero, zipped, zipD] at this ⊢
      rw [← this]
theorem zipped_at {α : Type} : ∀ {as : List α} {p : α × α} {i : Nat}, (zipped as)[i]? = some p → as[i]? = some p.1 ∧ as[i + 1]? = some p.2
  | [], _, _, h => by cases h
  | [_], _, _, h => by cases h
  | a :: b :: r, p, 0, h => by cases h; exact ⟨rfl, rfl⟩
  | a :: b :: r, p, i + 1, h => zipped_at (as := b :: r) h
theorem zipped_len {α : Type} : ∀ (as : List α), (zipped as).length = as.length - 1
  | [] => rfl
  | [_] => rfl
  | a :: b :: r => by
    show (zipped (b :: r)).length + 1 = _
    rw [zipped_len (b :: r)]
    rfl
def risB {α : Type} (lt : α → α → Bool) (as : List α) : Bool := (zipped as).all fun p => lt p.1 p.2
theorem rises_run {α : Type} (f : α → D) (lt : α → α → Bool) (as : List α) (h : ∀ a ∈ as, ∀ b ∈ as, dLt (f a) (f b) = some (.bool (lt a b))) (hl : as.length ≤ 1000) : G_rises [.tuple (as.map f)] = some (.bool (risB lt as)) := by
  unfold G_rises b_rises
  walk_at "run"
  rw [comp_typed' (zipped as) (fun p => .tuple [f p.1, f p.2]) (fun p => .bool (lt p.1 p.2)) ?_ ?_ fun p hp => ?_]
  · walk_at "run"
    rw [dAll_map]
    rfl
  · show some _ = _
    rw [← zip_cut]
  · rw [zipped_len]; omega
  · refine ⟨_, r_gTu2, ?_⟩
    walk_at "run"
    obtain ⟨i, hi⟩ := List.mem_iff_getElem?.mp hp
    have := zipped_at hi
    rw [h _ (List.mem_of_getElem? this.1) _ (List.mem_of_getElem? this.2)]
/-- the law's way to see a fall -/
def fallB {α : Type} (lt : α → α → Bool) (as : List α) (i : Nat) : Bool := match (zipped as)[i]? with
  | some p => !lt p.1 p.2
  | none => false
theorem falls {α : Type} (lt : α → α → Bool) (as : List α) : ((List.range (as.length - 1)).filter (fallB lt as)).isEmpty = risB lt as := by
  rw [Bool.eq_iff_iff, List.isEmpty_iff, List.filter_eq_nil_iff]
  unfold risB
  rw [List.all_eq_true]
  constructor
  · intro h p hp
    obtain ⟨i, hi⟩ := List.mem_iff_getElem?.mp hp
    have hl : i < as.length - 1 := by
      have := (List.getElem?_eq_some_iff.mp hi).1
      rwa [zipped_len] at this
    have := h i (List.mem_range.mpr hl)
    unfold fallB at this
    rw [hi] at this
    simpa using this
  · intro h i hi
    unfold fallB
    cases e : (zipped as)[i]? with
    | none => exact Bool.false_ne_true
    | some p =>
      have := h p (List.mem_of_getElem? e)
      simp [this]
theorem range1 (n : Nat) : rng 1 n = (List.range n).map fun (i : Nat) => (PyData.int (1 + i)) := rfl
/-- .. as the law runs it -/
theorem falls_run {α : Type} {ρ : Rho} {lt : α → α → Bool} {as : List α} {j : Nat} {fi : It1} {elt tst : Ex} {X : Option D} (hX : xComp fi [j] (gNm j) tst elt ρ = X) (hl : as.length ≤ 1000) (hi : fi ρ = some (rng 1 ((as.length : Int) - 1).toNat))
    (hs : ∀ i (p : α × α), as[i]? = some p.1 → as[i + 1]? = some p.2 → tst ((wipeR ρ [j]).set j (some (.int (1 + (i : Nat))))) = some (.bool (!lt p.1 p.2)) ∧ elt ((wipeR ρ [j]).set j (some (.int (1 + (i : Nat))))) = some (.int (1 + (i : Nat)))) :
    ∃ L, X = some (.list L) ∧ dNe (.list L) (.list []) = some (.bool (!risB lt as)) := by
  have hn : ((as.length : Int) - 1).toNat = as.length - 1 := by omega
  rw [hn, range1] at hi
  have e : xComp fi [j] (gNm j) tst elt ρ = _ := comp_typed (List.range (as.length - 1)) (fun (i : Nat) => .int (1 + i)) (fallB lt as) (fun (i : Nat) => .int (1 + i)) hi (by rw [List.length_range]; omega) fun k hk => by
    have hk := List.mem_range.mp hk
    have hk' : k < (zipped as).length := by rw [zipped_len]; exact hk
    obtain ⟨p, hp⟩ : ∃ p, (zipped as)[k]? = some p := ⟨_, List.getElem?_eq_getElem hk'⟩
    have h1 := zipped_at hp
    have h2 := hs k p h1.1 h1.2
    refine ⟨_, rfl, ?_, fun _ => h2.2⟩
    rw [h2.1]
    unfold fallB
    rw [hp]
  refine ⟨_, hX.symm.trans e, ?_⟩
  have : (((List.range (as.length - 1)).filter (fallB lt as)).map fun (i : Nat) => PyData.int (1 + i)) = (((List.range (as.length - 1)).filter (fallB lt as)).map fun (i : Nat) => (1 + i : Int)).map PyData.int := by rw [List.map_map]; rfl
  rw [this, ne_nil_ints, List.isEmpty_map, falls]
/-! ### trees among lines -/
def lnAt (ls : List Ln) (k : Nat) : Ln := ls.getD k ⟨0, 0, 0⟩
def ends (l : Ln) : Nat × Nat := (l.a.toNat, l.b.toNat)
def prs (ls : List Ln) (ks : List Nat) : List (Nat × Nat) := ks.map fun k => ends (lnAt ls k)
theorem ln_at {ls : List Ln} {k : Nat} (h : k < ls.length) : atI (ls.map dLn) (k : Int) = some (dLn (lnAt ls k)) ∧ lnAt ls k ∈ ls := by
  have e : ls[k]? = some (lnAt ls k) := by
    unfold lnAt
    rw [List.getD_eq_getElem?_getD, List.getElem?_eq_getElem h]
    rfl
  exact ⟨atI_nat (by rw [List.getElem?_map, e]; rfl), List.mem_of_getElem? e⟩
theorem ends_d {n : Nat} {l : Ln} (h : LnOk n l) : PyData.tuple [.int l.a, .int l.b] = dPn (ends l) := by
  have h1 := h.1
  have h2 := h.2.1
  show _ = PyData.tuple [.int (l.a.toNat : Int), .int (l.b.toNat : Int)]
  rw [Int.toNat_of_nonneg h1, Int.toNat_of_nonneg (by omega)]
theorem prs_ok {n : Nat} {ls : List Ln} (h : ∀ l ∈ ls, LnOk n l) {ks : List Nat} (hk : ∀ k ∈ ks, k < ls.length) : PsOk n (prs ls ks) := by
  intro p hp
  obtain ⟨k, hk', rfl⟩ := List.mem_map.mp hp
  have := h _ (ln_at (hk k hk')).2
  have h1 := this.1
  have h2 := this.2.1
  have h3 := this.2.2.1
  unfold ends
  exact ⟨by omega, by omega⟩
theorem cut2 (a b c : D) : cutD [a, b, c] none (some 2) = [a, b] := rfl
theorem line_pair {n : Nat} {ls : List Ln} (h : ∀ l ∈ ls, LnOk n l) {k : Nat} (hk : k < ls.length) : dSl (dLn (lnAt ls k)) none (some 2) = some (dPn (ends (lnAt ls k))) := by
  rw [← ends_d (h _ (ln_at hk).2)]
  rfl
theorem joined_run {n : Nat} {ls : List Ln} (hn : n ≤ 7) (h : ∀ l ∈ ls, LnOk n l) {ks : List Nat} (hk : ∀ k ∈ ks, k < ls.length) (hl : ks.length ≤ 1000) {S : D} (hS : S = lNs ks ∨ S = dNs ks) : G_joined [dGr n ls, S] = some (grpD n (lbP (prs ls ks))) := by
  unfold G_joined b_joined
  walk_at "run"
  rw [comp_typed' ks (fun (k : Nat) => PyData.int k) (fun k => dPn (ends (lnAt ls k))) ?_ ?_ fun k hk' => ?_]
  · walk_at "run"
    rw [groups_run n _ (prs ls ks) (by omega) (.inl (by unfold prs; rw [List.map_map]; rfl)) (prs_ok h hk)]
    rfl
  · rcases hS with rfl | rfl <;> rfl
  · omega
  · refine ⟨_, rfl, ?_⟩
    walk_at "run"
    rw [(ln_at (hk k hk')).1]
    walk_at "run"
    rw [cut2, ends_d (h _ (ln_at (hk k hk')).2)]
theorem l_joined {n : Nat} {ls : List Ln} (hn : n ≤ 7) (h : ∀ l ∈ ls, LnOk n l) {ks : List Nat} (hk : ∀ k ∈ ks, k < ls.length) : G_l_groups [.int n, .list ((prs ls ks).map dPn)] = some (grpD n (lbP (prs ls ks))) :=
  l_groups_run n _ _ (by omega) (.inl rfl) (prs_ok h hk)
theorem l_joined' {n : Nat} {ls : List Ln} (hn : n ≤ 7) (h : ∀ l ∈ ls, LnOk n l) {ks : List Nat} (hk : ∀ k ∈ ks, k < ls.length) : G_l_groups [.int n, .list (ks.map fun k => dPn (ends (lnAt ls k)))] = some (grpD n (lbP (prs ls ks))) := by
  have := l_joined hn h hk
  unfold prs at this
  rw [List.map_map] at this
  exact this
theorem ints_of_num {ds : List D} {m : Nat} (h : ds.all (fun d => isNum d 0 ((m : Int) - 1)) = true) : ∃ ks : List Nat, ds = ks.map (fun (k : Nat) => PyData.int k) ∧ ∀ k ∈ ks, k < m := by
  induction ds with
  | nil => exact ⟨[], rfl, fun _ h => by cases h⟩
  | cons d r ih =>
    rw [List.all_cons, Bool.and_eq_true] at h
    obtain ⟨ks, e, hk⟩ := ih h.2
    have hd := h.1
    cases d <;> try cases hd
    case int i =>
      unfold isNum at hd
      rw [Bool.and_eq_true, decide_eq_true_eq, decide_eq_true_eq] at hd
      refine ⟨i.toNat :: ks, ?_, fun k hk' => ?_⟩
      · rw [e, List.map_cons, Int.toNat_of_nonneg hd.1]
      · rcases List.mem_cons.mp hk' with rfl | hk'
        · omega
        · exact hk k hk'
theorem grp_len (n : Nat) (g : Nat → Int) : dLen (grpD n g) = some (.int (reps n g).length) := by
  unfold grpD
  rw [dLen_t, List.length_map]
theorem emp_all (ds : List D) (p : D → Bool) : (List.map id (ds.filter fun d => !p d)).isEmpty = ds.all p := by
  rw [List.map_id, Bool.eq_iff_iff, List.isEmpty_iff, List.filter_eq_nil_iff, List.all_eq_true]
  exact ⟨fun h d hd => by simpa using h d hd, fun h d hd => by simp [h d hd]⟩
def ltN (a b : Nat) : Bool := decide (a < b)
theorem dLt_n (a b : Nat) : dLt (.int a) (.int b) = some (.bool (ltN a b)) := by
  rw [dLt_i]
  unfold ltN
  exact congrArg (fun b => some (PyData.bool b)) (decide_eq_decide.mpr (by omega))
theorem dGeA_n (a b : Nat) : dGeA (.int a) (.int b) = some (.bool (!ltN a b)) := by
  rw [dGeA_i]
  unfold ltN
  refine congrArg (fun b => some (PyData.bool b)) ?_
  rw [← decide_not]
  exact decide_eq_decide.mpr (by omega)
theorem is_tree_run {n : Nat} {ls : List Ln} (hn : 1 ≤ n ∧ n ≤ 7) (hls : ls.length ≤ 1000) (h : ∀ l ∈ ls, LnOk n l) {d : D} (hd : Gd 100 4000 8 d) : ∃ b, G_is_tree [d, dGr n ls] = some (.bool b) ∧ G_l_is_tree [d, dGr n ls] = some (.bool b) := by
  unfold G_is_tree b_is_tree G_l_is_tree b_l_is_tree
  by_cases ht : ∃ ds, d = .tuple ds
  case neg =>
    refine ⟨false, ?_, ?_⟩
    all_goals
      have : dIsi .tuple d = some (.bool false) := by
        cases d <;> first | rfl | exact absurd ⟨_, rfl⟩ ht | cases hd.noD
      walk_at "run"
      rw [this]
      walk_at "run"
  obtain ⟨ds, rfl⟩ := ht
  obtain ⟨hl, hx⟩ := hd.tup
  walk_at "run"
  by_cases c1 : (ds.length : Int) = n - 1
  case neg =>
    rw [decide_eq_false c1]
    exact ⟨false, rfl, rfl⟩
  rw [decide_eq_true c1]
  have hnd : ∀ x ∈ ds, noD x = true := fun x hx' => (hx x hx').noD
  walk_at "run"
  rw [comp_typed' ds id (fun d => .bool (isNum d 0 ((ls.length : Int) - 1))) ?_ ?_ fun d hd' => ?_]
  rw [comp_typed ds id (fun d => !isNum d 0 ((ls.length : Int) - 1)) id ?_ ?_ fun d hd' => ?_]
  · walk_at "run"
    rw [dAll_map, dNe_nil fun d hd' => by
      rw [List.map_id] at hd'
      exact (hx d (List.mem_filter.mp hd').1).shp.mono (by omega)]
    walk_at "run"
    rw [emp_all]
    by_cases c2 : ds.all (fun d => isNum d 0 ((ls.length : Int) - 1)) = true
    case neg =>
      rw [Bool.not_eq_true] at c2
      rw [c2]
      walk_at "run"
      exact ⟨false, rfl, rfl⟩
    rw [c2]
    walk_at "run"
    obtain ⟨ks, rfl, hk⟩ := ints_of_num c2
    rw [List.length_map] at hl c1
    rw [rises_run (fun (k : Nat) => PyData.int k) ltN ks (fun a _ b _ => dLt_n a b) (by omega)]
    generalize hX : xComp (iR2 _ _) _ _ _ _ _ = X
    obtain ⟨L, rfl, e2⟩ := falls_run (as := ks) (lt := ltN) hX (by omega) (iR2_i (j := (ks.length : Int)) rfl (by walk_at "run") (by omega) (by omega)) fun i p h1 h2 => by
      walk_at "run"
      have q1 : atI (ks.map fun (k : Nat) => PyData.int k) (1 + (i : Int) - 1) = some (.int p.1) := at_n (by omega) (by rw [show (1 + (i : Int) - 1).toNat = i by omega, List.getElem?_map, h1]; rfl)
      have q2 : atI (ks.map fun (k : Nat) => PyData.int k) (1 + (i : Int)) = some (.int p.2) := at_n (by omega) (by rw [show (1 + (i : Int)).toNat = i + 1 by omega, List.getElem?_map, h2]; rfl)
      rw [q1, q2]
      walk_at "run"
      rw [← dGeA_n]
      exact ⟨rfl, trivial⟩
    clear hX
    simp only [o_bind, e2]
    walk_at "run"
    cases c3 : risB ltN ks with
    | false =>
      walk_at "run"
      exact ⟨false, rfl, rfl⟩
    | true =>
      walk_at "run"
      rw [joined_run hn.2 h hk (by omega) (.inr rfl)]
      rw [comp_typed' ks (fun (k : Nat) => PyData.int k) (fun k => dPn (ends (lnAt ls k))) ?_ ?_ fun k hk' => ?_]
      · walk_at "run"
        rw [l_joined' hn.2 h hk, grp_len]
        walk_at "run"
        rw [grp_len]
        walk_at "run"
        exact ⟨_, rfl, rfl⟩
      · rfl
      · omega
      · refine ⟨_, rfl, ?_⟩
        walk_at "run"
        rw [(ln_at (hk k hk')).1]
        walk_at "run"
        rw [cut2, ends_d (h _ (ln_at (hk k hk')).2)]
  · show some ds = _
    rw [List.map_id]
  · omega
  · refine ⟨_, rfl, ?_, fun _ => rfl⟩
    walk_at "run"
    rw [id_eq, num_run' _ _ _ (hnd _ hd')]
    walk_at "run"
  · show some ds = _
    rw [List.map_id]
  · omega
  · refine ⟨_, rfl, ?_⟩
    walk_at "run"
    rw [id_eq, num_run _ _ _ (hnd _ hd')]
end Tw

set_option Elab.async false
set_option linter.all false
set_option maxRecDepth 100000
set_option maxHeartbeats 1000000
namespace Tw
open PySem PySem.Spec PyProof.Rows L2
local macro_rules | `(tactic| walk_at "run") => `(tactic| simp (disch := (first | omega | (simp only [List.length_map, List.length_append, List.length_cons, List.length_nil, labD_len, rng_lng, cut_len, List.length_drop, List.length_take]; omega))) only [ite_self, at0, at1, at2, isi_tt, isi_tl, isi_ti, isi_ii, isi_it, isi_bb, Bool.not_true, Bool.not_false, Bool.true_or, Bool.false_or, Bool.true_and, Bool.false_and, Bool.and_true, Bool.or_false, Bool.and_false, Bool.or_true, labD_at, r_wipe0, r_wipe1, r_wipe2, r_wipe3, r_appE, appD_l, dAddL', dAddT', ite_or, ite_and, r_run0, r_run1, r_run2, r_run3, r_run4, r_and, r_or, r_if, r_seq, r_1, r_2, r_c, r_call, r_cons, r_nil, r_ret, r_set, r_snil, r_asg, r_on1, r_tup0, r_tup1, r_tup2, r_tup3, r_tup4, r_tup5, r_tup6, r_lst0, r_lst1, r_lst2, r_lst3, r_lst4, r_lst5, r_lst6, r_sl, r_pn, r_ps, r_nm, r_int, r_v0, r_vs, r_rtO,
  andO_b, orO_b, ifO_b, seqO_nx, seqO_rt, seqO_ite, outD_ite, o_bind, o_map, List.map_cons, List.map_nil, List.length_cons, List.length_nil, List.cons_append, List.nil_append, List.set_cons_zero, List.set_cons_succ, Nat.reduceAdd, Nat.reduceSub, Nat.zero_add,
  List.replicate_succ, List.replicate_zero, dAdd_i, dSub_i, dNeg_i, dNot_b, dLt_i, dLe_i, dGt_i, dGe_i, dGeA_i, dMul_i, dMul_j, dDiv_i, dMod_i, dEq_i, dNe_i, dEq_b, dLen_l, dLen_t, dTupOf_l, dTupOf_t, dMin2_i, dMax2_i, dInt1_b, dIx_l, dIx_t, dSl_l, dSl_t, r_gTu2, r_gTu3,
  Bool.false_eq_true, if_true, if_false, eq_self, List.length_map, List.length_replicate])

/-! ### plain trees -/
def isPr (a b : D) (m : Int) : Bool := isNum a 0 (m - 1) && isNum b 0 (m - 1) && match a, b with
  | .int i, .int j => decide (i < j)
  | _, _ => false
theorem num_int {d : D} {lo hi : Int} (h : isNum d lo hi = true) : ∃ i, d = .int i ∧ lo ≤ i ∧ i ≤ hi := by
  cases d <;> try cases h
  case int i =>
    unfold isNum at h
    rw [Bool.and_eq_true, decide_eq_true_eq, decide_eq_true_eq] at h
    exact ⟨i, rfl, h⟩
theorem pair_run {a b : D} {m : Int} (ha : noD a = true) (hb : noD b = true) : G_is_pair [a, b, .int m] = some (.bool (isPr a b m)) := by
  unfold G_is_pair b_is_pair
  walk_at "run"
  rw [num_run a _ _ ha]
  walk_at "run"
  rw [num_run b _ _ hb]
  unfold isPr
  cases e1 : isNum a 0 (m - 1) with
  | false => walk_at "run"
  | true =>
    cases e2 : isNum b 0 (m - 1) with
    | false => walk_at "run"
    | true =>
      obtain ⟨i, rfl, _⟩ := num_int e1
      obtain ⟨j, rfl, _⟩ := num_int e2
      walk_at "run"
def badPr (m : Int) : D → Bool
  | .tuple [a, b] => !isPr a b m
  | _ => true
theorem is2 (ds : List D) : (∃ a b, ds = [a, b]) ∨ ¬ ((ds.length : Int) = 2) := by
  match ds with
  | [] => exact .inr (by simp)
  | [_] => exact .inr (by simp)
  | [a, b] => exact .inl ⟨a, b, rfl⟩
  | _ :: _ :: _ :: _ => exact .inr (by simp only [List.length_cons]; omega)
theorem badPr_not {m : Int} {ds : List D} (h : ¬ ((ds.length : Int) = 2)) : badPr m (.tuple ds) = true := by
  unfold badPr
  split
  · next e => cases e; exact absurd rfl h
  · rfl
theorem badPr_no {m : Int} {d : D} (h : ∀ ds, d ≠ .tuple ds) : badPr m d = true := by
  unfold badPr
  split
  · exact absurd rfl (h _)
  · rfl
theorem no_tuple {d : D} (h : noD d = true) (ht : ∀ ds, d ≠ .tuple ds) : dIsi .tuple d = some (.bool false) := by
  cases d <;> first | rfl | exact absurd rfl (ht _) | cases h
theorem prs_of {ds : List D} {m : Nat} (h : ds.any (badPr m) = false) : ∃ ps : List (Nat × Nat), ds = ps.map dPn ∧ ∀ p ∈ ps, p.1 < p.2 ∧ p.2 < m := by
  induction ds with
  | nil => exact ⟨[], rfl, fun _ h => by cases h⟩
  | cons d r ih =>
    rw [List.any_cons, Bool.or_eq_false_iff] at h
    obtain ⟨ps, e, hk⟩ := ih h.2
    have hd := h.1
    unfold badPr at hd
    split at hd
    · next a b =>
      rw [Bool.not_eq_false'] at hd
      unfold isPr at hd
      rw [Bool.and_eq_true, Bool.and_eq_true] at hd
      obtain ⟨i, rfl, h1⟩ := num_int hd.1.1
      obtain ⟨j, rfl, h2⟩ := num_int hd.1.2
      have h3 : i < j := by simpa using hd.2
      refine ⟨(i.toNat, j.toNat) :: ps, ?_, fun p hp => ?_⟩
      · rw [e, List.map_cons]
        show _ = PyData.tuple [.int (i.toNat : Int), .int (j.toNat : Int)] :: _
        rw [Int.toNat_of_nonneg h1.1, Int.toNat_of_nonneg h2.1]
      · rcases List.mem_cons.mp hp with rfl | hp
        · show i.toNat < j.toNat ∧ j.toNat < m
          omega
        · exact hk p hp
    · cases hd
def ltP (a b : Nat × Nat) : Bool := HT.lexLt [(a.1 : Int), (a.2 : Int)] [(b.1 : Int), (b.2 : Int)]
theorem dLt_p (a b : Nat × Nat) : dLt (dPn a) (dPn b) = some (.bool (ltP a b)) := rfl
theorem dGeA_p (a b : Nat × Nat) : dGeA (dPn a) (dPn b) = some (.bool (!ltP a b)) := rfl
theorem two_two : decide (((2 : Nat) : Int) = 2) = true := rfl
theorem is_plain_run {m : Nat} (hm : 1 ≤ m ∧ m ≤ 7) {d : D} (hd : Gd 100 4000 8 d) : ∃ b, G_is_plain_tree [d, .int m] = some (.bool b) ∧ G_l_is_plain_tree [d, .int m] = some (.bool b) := by
  unfold G_is_plain_tree b_is_plain_tree G_l_is_plain_tree b_l_is_plain_tree
  by_cases ht : ∃ ds, d = .tuple ds
  case neg =>
    refine ⟨false, ?_, ?_⟩
    all_goals
      have := no_tuple hd.noD fun ds e => ht ⟨ds, e⟩
      walk_at "run"
      rw [this]
      walk_at "run"
  obtain ⟨ds, rfl⟩ := ht
  obtain ⟨hl, hx⟩ := hd.tup
  walk_at "run"
  by_cases c1 : (ds.length : Int) = m - 1
  case neg =>
    rw [decide_eq_false c1]
    exact ⟨false, rfl, rfl⟩
  rw [decide_eq_true c1]
  walk_at "run"
  generalize e1 : sFor _ _ (sIf _ _ _) _ = o1
  have k1 := for_some e1 (ds := ds) rfl (fun i ρ => ∃ x2, ρ = [some (.tuple ds), some (.int m), x2]) (.bool false) (badPr m) ⟨_, rfl⟩ fun i d ρ hd' hq => by
    obtain ⟨x2, rfl⟩ := hq
    have hg := hx d (List.mem_of_getElem? hd')
    refine ⟨_, rfl, ?_⟩
    by_cases ht : ∃ es, d = .tuple es
    case neg =>
      have := no_tuple hg.noD fun ds e => ht ⟨ds, e⟩
      rw [badPr_no fun ds e => ht ⟨ds, e⟩, if_pos rfl]
      walk_at "run"
      rw [this]
      walk_at "run"
    obtain ⟨es, rfl⟩ := ht
    rcases is2 es with ⟨a, b, rfl⟩ | c
    · have ha : noD a = true := (hg.tup.2 a (by simp)).noD
      have hb : noD b = true := (hg.tup.2 b (by simp)).noD
      have : badPr m (.tuple [a, b]) = !isPr a b m := rfl
      rw [this]
      walk_at "run"
      rw [pair_run ha hb]
      walk_at "run"
      rw [two_two]
      cases isPr a b m with
      | false => walk_at "run"
      | true =>
        walk_at "run"
        exact ⟨_, rfl, _, rfl⟩
    · rw [badPr_not c, if_pos rfl]
      walk_at "run"
      rw [decide_eq_false c]
      walk_at "run"
  generalize e2 : sFor _ _ (sSeq _ _) _ = o2
  have k2 := for_some e2 (ds := ds) rfl (fun i ρ => ∃ x2, ρ = [some (.tuple ds), some (.int m), x2, none]) (.bool false) (badPr m) ⟨_, rfl⟩ fun i d ρ hd' hq => by
    obtain ⟨x2, rfl⟩ := hq
    have hg := hx d (List.mem_of_getElem? hd')
    refine ⟨_, rfl, ?_⟩
    by_cases ht : ∃ es, d = .tuple es
    case neg =>
      have := no_tuple hg.noD fun ds e => ht ⟨ds, e⟩
      rw [badPr_no fun ds e => ht ⟨ds, e⟩, if_pos rfl]
      walk_at "run"
      rw [this]
      walk_at "run"
    obtain ⟨es, rfl⟩ := ht
    rcases is2 es with ⟨a, b, rfl⟩ | c
    · have ha : noD a = true := (hg.tup.2 a (by simp)).noD
      have hb : noD b = true := (hg.tup.2 b (by simp)).noD
      have : badPr m (.tuple [a, b]) = !isPr a b m := rfl
      rw [this]
      walk_at "run"
      rw [num_run' a _ _ ha]
      walk_at "run"
      rw [num_run' b _ _ hb]
      walk_at "run"
      rw [two_two]
      unfold isPr
      cases q1 : isNum a 0 ((m : Int) - 1) with
      | false => walk_at "run"
      | true =>
        cases q2 : isNum b 0 ((m : Int) - 1) with
        | false => walk_at "run"
        | true =>
          obtain ⟨i, rfl, _⟩ := num_int q1
          obtain ⟨j, rfl, _⟩ := num_int q2
          walk_at "run"
          have : decide (j ≤ i) = !decide (i < j) := by rw [← decide_not]; exact decide_eq_decide.mpr (by omega)
          rw [this]
          cases decide (i < j) with
          | false => walk_at "run"
          | true =>
            walk_at "run"
            exact ⟨_, rfl, _, rfl⟩
    · rw [badPr_not c, if_pos rfl]
      walk_at "run"
      rw [decide_eq_false c]
      walk_at "run"
  rcases k1 with ⟨c2, rfl⟩ | ⟨c2, ρ1, rfl, x2, rfl⟩
  · rcases k2 with ⟨_, rfl⟩ | ⟨c3, _⟩
    · exact ⟨false, rfl, rfl⟩
    · rw [c2] at c3; cases c3
  rcases k2 with ⟨c3, _⟩ | ⟨c3, ρ2, rfl, x3, rfl⟩
  · rw [c2] at c3; cases c3
  clear e1 e2 c3
  obtain ⟨ps, rfl, hp⟩ := prs_of c2
  rw [List.length_map] at hl c1
  have hps : PsOk m ps := fun p h => ⟨by have := hp p h; omega, (hp p h).2⟩
  walk_at "run"
  rw [rises_run dPn ltP ps (fun a _ b _ => dLt_p a b) (by omega)]
  generalize hX : xComp (iR2 _ _) _ _ _ _ _ = X
  obtain ⟨L, rfl, e2⟩ := falls_run (as := ps) (lt := ltP) hX (by omega) (iR2_i (j := (ps.length : Int)) rfl (by walk_at "run") (by omega) (by omega)) fun i p h1 h2 => by
    walk_at "run"
    have q1 : atI (ps.map dPn) (1 + (i : Int) - 1) = some (dPn p.1) := at_n (by omega) (by rw [show (1 + (i : Int) - 1).toNat = i by omega, List.getElem?_map, h1]; rfl)
    have q2 : atI (ps.map dPn) (1 + (i : Int)) = some (dPn p.2) := at_n (by omega) (by rw [show (1 + (i : Int)).toNat = i + 1 by omega, List.getElem?_map, h2]; rfl)
    rw [q1, q2]
    walk_at "run"
    rw [dGeA_p]
    exact ⟨rfl, trivial⟩
  clear hX
  simp only [o_bind, e2]
  rw [groups_run m _ ps (by omega) (.inr rfl) hps]
  walk_at "run"
  rw [l_groups_run m _ ps (by omega) (.inr rfl) hps]
  walk_at "run"
  rw [grp_len]
  cases c3 : risB ltP ps with
  | false =>
    walk_at "run"
    exact ⟨false, rfl, rfl⟩
  | true =>
    walk_at "run"
    exact ⟨_, rfl, rfl⟩
/-! ### grounds -/
def badLn (m : Int) : D → Bool
  | .tuple [a, b, c] => !(isPr a b m && isNum c 0 1000)
  | _ => true
theorem is3 (ds : List D) : (∃ a b c, ds = [a, b, c]) ∨ ¬ ((ds.length : Int) = 3) := by
  match ds with
  | [] => exact .inr (by simp)
  | [_] => exact .inr (by simp)
  | [a, b] => exact .inr (by simp)
  | [a, b, c] => exact .inl ⟨a, b, c, rfl⟩
  | _ :: _ :: _ :: _ :: _ => exact .inr (by simp only [List.length_cons]; omega)
theorem badLn_not {m : Int} {ds : List D} (h : ¬ ((ds.length : Int) = 3)) : badLn m (.tuple ds) = true := by
  unfold badLn
  split
  · next e => cases e; exact absurd rfl h
  · rfl
theorem badLn_no {m : Int} {d : D} (h : ∀ ds, d ≠ .tuple ds) : badLn m d = true := by
  unfold badLn
  split
  · exact absurd rfl (h _)
  · rfl
theorem three_three : decide (((3 : Nat) : Int) = 3) = true := rfl
theorem line_run {L B k : Nat} {d : D} {m : Int} (hg : Gd L B (k + 1) d) : G_is_line [d, .int m] = some (.bool (!badLn m d)) := by
  unfold G_is_line b_is_line
  by_cases ht : ∃ es, d = .tuple es
  case neg =>
    have := no_tuple hg.noD fun ds e => ht ⟨ds, e⟩
    rw [badLn_no fun ds e => ht ⟨ds, e⟩]
    walk_at "run"
    rw [this]
    walk_at "run"
  obtain ⟨es, rfl⟩ := ht
  rcases is3 es with ⟨a, b, c, rfl⟩ | c
  · have ha : noD a = true := (hg.tup.2 a (by simp)).noD
    have hb : noD b = true := (hg.tup.2 b (by simp)).noD
    have hc : noD c = true := (hg.tup.2 c (by simp)).noD
    have : badLn m (.tuple [a, b, c]) = !(isPr a b m && isNum c 0 1000) := rfl
    rw [this]
    walk_at "run"
    rw [pair_run ha hb]
    walk_at "run"
    rw [num_run c _ _ hc]
    walk_at "run"
    rw [three_three]
    cases isPr a b m with
    | false => walk_at "run"
    | true =>
      walk_at "run"
      rw [Bool.not_not]
  · rw [badLn_not c]
    walk_at "run"
    rw [decide_eq_false c]
    walk_at "run"
theorem is_ground_run {L B : Nat} {d : D} (hd : Gd L B 8 d) : ∃ b, G_is_ground [d] = some (.bool b) ∧ G_l_is_ground [d] = some (.bool b) := by
  unfold G_is_ground b_is_ground G_l_is_ground b_l_is_ground
  by_cases ht : ∃ ds, d = .tuple ds
  case neg =>
    refine ⟨false, ?_, ?_⟩
    all_goals
      have := no_tuple hd.noD fun ds e => ht ⟨ds, e⟩
      walk_at "run"
      rw [this]
      walk_at "run"
  obtain ⟨ds, rfl⟩ := ht
  obtain ⟨hl, hx⟩ := hd.tup
  walk_at "run"
  rcases is2 ds with ⟨a, b, rfl⟩ | c
  case inr =>
    rw [decide_eq_false c]
    exact ⟨false, rfl, rfl⟩
  have ha : noD a = true := (hx a (by simp)).noD
  have hb := hx b (by simp)
  walk_at "run"
  rw [num_run a _ _ ha, num_run' a _ _ ha]
  walk_at "run"
  rw [two_two]
  cases q1 : isNum a 1 7 with
  | false => exact ⟨false, rfl, rfl⟩
  | true =>
  obtain ⟨m, rfl, h1, h2⟩ := num_int q1
  walk_at "run"
  by_cases ht : ∃ ls, b = .tuple ls
  case neg =>
    have := no_tuple hb.noD fun ds e => ht ⟨ds, e⟩
    rw [this]
    walk_at "run"
    exact ⟨false, rfl, rfl⟩
  obtain ⟨ls, rfl⟩ := ht
  obtain ⟨hl, hx⟩ := hb.tup
  walk_at "run"
  by_cases c1 : (ls.length : Int) ≤ 21
  case neg =>
    rw [decide_eq_false c1, decide_eq_true (show (21 : Int) < ls.length by omega)]
    exact ⟨false, rfl, rfl⟩
  rw [decide_eq_true c1, decide_eq_false (show ¬ (21 : Int) < ls.length by omega)]
  walk_at "run"
  rw [comp_typed' ls id (fun d => .bool (!badLn m d)) ?_ ?_ fun d hd' => ?_]
  · walk_at "run"
    rw [dAll_map]
    generalize e2 : sFor _ _ (sSeq _ _) _ = o2
    have k2 := for_some e2 (ds := ls) rfl (fun i ρ => ∃ x2, ρ = [some (.tuple [.int m, .tuple ls]), x2]) (.bool false) (badLn m) ⟨_, rfl⟩ fun i d ρ hd' hq => by
      obtain ⟨x2, rfl⟩ := hq
      have hg := hx d (List.mem_of_getElem? hd')
      refine ⟨_, rfl, ?_⟩
      by_cases ht : ∃ es, d = .tuple es
      case neg =>
        have := no_tuple hg.noD fun ds e => ht ⟨ds, e⟩
        rw [badLn_no fun ds e => ht ⟨ds, e⟩, if_pos rfl]
        walk_at "run"
        rw [this]
        walk_at "run"
      obtain ⟨es, rfl⟩ := ht
      rcases is3 es with ⟨a, b, c, rfl⟩ | c
      · have ha : noD a = true := (hg.tup.2 a (by simp)).noD
        have hb : noD b = true := (hg.tup.2 b (by simp)).noD
        have hc : noD c = true := (hg.tup.2 c (by simp)).noD
        have : badLn m (.tuple [a, b, c]) = !(isPr a b m && isNum c 0 1000) := rfl
        rw [this]
        walk_at "run"
        rw [num_run' a _ _ ha]
        walk_at "run"
        rw [num_run' b _ _ hb]
        walk_at "run"
        rw [num_run' c _ _ hc]
        walk_at "run"
        rw [three_three]
        unfold isPr
        cases q1 : isNum a 0 ((m : Int) - 1) with
        | false => walk_at "run"
        | true =>
          cases q2 : isNum b 0 ((m : Int) - 1) with
          | false => walk_at "run"
          | true =>
            obtain ⟨i, rfl, _⟩ := num_int q1
            obtain ⟨j, rfl, _⟩ := num_int q2
            walk_at "run"
            have : decide (j ≤ i) = !decide (i < j) := by rw [← decide_not]; exact decide_eq_decide.mpr (by omega)
            rw [this]
            cases decide (i < j) with
            | false => walk_at "run"
            | true =>
              walk_at "run"
              cases isNum c 0 1000 with
              | false => walk_at "run"
              | true =>
                walk_at "run"
                exact ⟨_, rfl, _, rfl⟩
      · rw [badLn_not c, if_pos rfl]
        walk_at "run"
        rw [decide_eq_false c]
        walk_at "run"
    have e3 : ls.all (fun d => !badLn m d) = !ls.any (badLn m) := by rw [List.not_any_eq_all_not]
    rw [e3]
    rcases k2 with ⟨c2, rfl⟩ | ⟨c2, ρ1, rfl, x2, rfl⟩
    · rw [c2]
      exact ⟨false, rfl, rfl⟩
    · rw [c2]
      exact ⟨true, rfl, rfl⟩
  · show some ls = _
    rw [List.map_id]
  · omega
  · refine ⟨_, rfl, ?_⟩
    walk_at "run"
    rw [id_eq, line_run (hx d hd')]
end Tw

set_option Elab.async false
set_option linter.all false
set_option maxRecDepth 100000
set_option maxHeartbeats 1000000
namespace Tw
open PySem PySem.Spec PyProof.Rows L2
local macro_rules | `(tactic| walk_at "run") => `(tactic| simp (disch := (first | omega | (simp only [List.length_map, List.length_append, List.length_cons, List.length_nil, labD_len, rng_lng, cut_len, List.length_drop, List.length_take]; omega))) only [ite_self, at0, at1, at2, isi_tt, isi_tl, isi_ti, isi_ii, isi_it, isi_bb, Bool.not_true, Bool.not_false, Bool.true_or, Bool.false_or, Bool.true_and, Bool.false_and, Bool.and_true, Bool.or_false, Bool.and_false, Bool.or_true, labD_at, r_wipe0, r_wipe1, r_wipe2, r_wipe3, r_appE, appD_l, dAddL', dAddT', ite_or, ite_and, r_run0, r_run1, r_run2, r_run3, r_run4, r_and, r_or, r_if, r_seq, r_1, r_2, r_c, r_call, r_cons, r_nil, r_ret, r_set, r_snil, r_asg, r_on1, r_tup0, r_tup1, r_tup2, r_tup3, r_tup4, r_tup5, r_tup6, r_lst0, r_lst1, r_lst2, r_lst3, r_lst4, r_lst5, r_lst6, r_sl, r_pn, r_ps, r_nm, r_int, r_v0, r_vs, r_rtO,
  andO_b, orO_b, ifO_b, seqO_nx, seqO_rt, seqO_ite, outD_ite, o_bind, o_map, List.map_cons, List.map_nil, List.length_cons, List.length_nil, List.cons_append, List.nil_append, List.set_cons_zero, List.set_cons_succ, Nat.reduceAdd, Nat.reduceSub, Nat.zero_add,
  List.replicate_succ, List.replicate_zero, dAdd_i, dSub_i, dNeg_i, dNot_b, dLt_i, dLe_i, dGt_i, dGe_i, dGeA_i, dMul_i, dMul_j, dDiv_i, dMod_i, dEq_i, dNe_i, dEq_b, dLen_l, dLen_t, dTupOf_l, dTupOf_t, dMin2_i, dMax2_i, dInt1_b, dIx_l, dIx_t, dSl_l, dSl_t, r_gTu2, r_gTu3,
  Bool.false_eq_true, if_true, if_false, eq_self, List.length_map, List.length_replicate])
/-! ### spoilt things -/
def flatB (B : Nat) : D → Bool
  | .none => true
  | .bool _ => true
  | .int i => decide (i.natAbs ≤ B)
  | .str z => PyData.strOk z
  | _ => false
def gdb (L B : Nat) : Nat → D → Bool
  | 0, d => flatB B d
  | k + 1, d => flatB B d || match d with
    | .list ds => decide (ds.length ≤ L) && ds.all (gdb L B k)
    | .tuple ds => decide (ds.length ≤ L) && ds.all (gdb L B k)
    | _ => false
theorem flat_of {B : Nat} {d : D} (h : flatB B d = true) : flat B d := by
  cases d <;> first | trivial | exact (of_decide_eq_true h : _ ≤ _) | exact h | exact absurd h Bool.false_ne_true
theorem gd_of {L B : Nat} : ∀ {k : Nat} {d : D}, gdb L B k d = true → Gd L B k d
  | 0, d, h => flat_of h
  | k + 1, d, h => by
    unfold gdb at h
    rw [Bool.or_eq_true] at h
    rcases h with h | h
    · exact .inl (flat_of h)
    · cases d <;> try cases h
      all_goals
        rw [Bool.and_eq_true, decide_eq_true_eq, List.all_eq_true] at h
        refine .inr ⟨_, by first | exact .inl rfl | exact .inr rfl, h.1, fun x hx => gd_of (h.2 x hx)⟩
def oddL : List D := [.int (-1), .int 0, .int 1, .int 7, .int 8, .bool true, .bool false, .none, .str "", .str "0", .tuple [], .list [], .tuple [.int 0], .tuple [.int 0, .int 1], .tuple [.int 1, .int 1],
  .tuple [.int 0, .int 1, .int 1001], .tuple [.tuple [.int 0, .int 1, .int 2]], .list [.int 0, .int 1], .tuple [.int 1, .tuple []], .tuple [.int 0, .tuple []], .tuple [.bool true], .int 2, .tuple [.int 0, .int 1, .int 2], .int 1001, .tuple [.int (-1)]]
theorem at_ex {ds : List D} {i : Int} (h0 : 0 ≤ i) (h : i < ds.length) : ∃ d ∈ ds, atI ds i = some d := by
  have hi : i.toNat < ds.length := by omega
  exact ⟨ds[i.toNat], List.getElem_mem hi, at_n h0 (List.getElem?_eq_getElem hi)⟩
theorem odd_run (m : Int) : ∃ e, G_l_odd [.int m] = some e ∧ Gd 60 4000 3 e := by
  have h : G_l_odd [.int m] = atI oddL (m % 25) := by
    unfold G_l_odd b_l_odd
    have e1 : ∀ g ρ ds, g ρ = some ds → ds.length ≤ LIM → xLst g ρ = some (.list ds) := fun g ρ ds h1 h2 => by
      unfold xLst
      rw [h1, o_bind, if_pos h2]
    rw [r_run1, seqO_def _ _ _ (o := some (.nx [some (.int m), some (.list (oddL.take 17))])) (by rw [r_set, e1 _ _ (oddL.take 17) rfl (by decide)]; rfl), seqO_nx, r_ret, r_2, r_2, r_vs, r_v0, o_bind, e1 _ _ (oddL.drop 17) rfl (by decide), o_bind, dAddL (by decide), o_bind]
    walk_at "run"
    show outD (Option.map Out.rt (atI oddL (m % 25))) = atI oddL (m % 25)
    cases atI oddL (m % 25) with
    | none => rfl
    | some _ => rfl
  obtain ⟨e, he, h2⟩ := at_ex (ds := oddL) (i := m % 25) (Int.emod_nonneg _ (by omega)) (Int.emod_lt_of_pos _ (by decide))
  refine ⟨e, h.trans h2, ?_⟩
  have : oddL.all (gdb 60 4000 3) = true := by decide +kernel
  exact gd_of (List.all_eq_true.mp this e he)
def In : Nat → D → Prop
  | 0, d => ∃ i : Int, d = .int i ∧ i.natAbs ≤ 2000
  | k + 1, d => (∃ i : Int, d = .int i ∧ i.natAbs ≤ 2000) ∨ ∃ ds, d = .tuple ds ∧ ds.length ≤ 30 ∧ ∀ x ∈ ds, In k x
theorem In.gd : ∀ {k : Nat} {d : D}, In k d → Gd 60 4000 k d
  | 0, d, ⟨i, h, hb⟩ => by rw [h]; exact Nat.le_trans hb (by omega)
  | k + 1, d, .inl ⟨i, h, hb⟩ => by rw [h]; exact .inl (Nat.le_trans hb (by omega))
  | k + 1, d, .inr ⟨ds, h, hl, hx⟩ => .inr ⟨ds, .inr h, by omega, fun x hx' => In.gd (hx x hx')⟩
theorem strOk_of (s : String) : PyData.strOk (Str.ofString s) = true := by
  rw [Str.ofString_eq_toList]
  unfold PyData.strOk
  rw [List.all_toArray, List.all_eq_true]
  intro c hc
  obtain ⟨x, _, rfl⟩ := List.mem_map.mp hc
  exact decide_eq_true (by have := x.valid; unfold UInt32.isValidChar Nat.isValidChar at this; have h : x.toNat = x.val.toNat := rfl; omega)
theorem dListOf_t (ds : List D) : dListOf (.tuple ds) = some (.list ds) := rfl
theorem dBackT_t (ds : List D) : dBackT (.tuple ds) = some (.tuple ds.reverse) := rfl
theorem dStr1_i {i : Int} (h : i.natAbs ≤ 2000) : dStr1 (.int i) = some (.str (Str.ofString (toString i))) := if_pos (Nat.lt_of_le_of_lt h (by decide +kernel))
theorem dMul23 {ds : List D} (h : ds ≠ []) (hl : ds.length ≤ 30) : dMul (.tuple ds) (.int 23) = some (.tuple (List.replicate 23 ds).flatten) := if_pos ⟨h, by omega, by omega, by omega⟩
/-- what is cut out of one's own -/
theorem sub_gd {k B : Nat} {ds es : List D} {d : D} (hd : d = .list es ∨ d = .tuple es) (hx : ∀ x ∈ ds, Gd 60 B k x) (hl : es.length ≤ 60) (hs : ∀ x ∈ es, x ∈ ds) : Gd 60 B (k + 1) d := .inr ⟨es, hd, hl, fun x h => hx x (hs x h)⟩
theorem mem_cutD {ds : List D} {lo hi : Option Int} {x : D} (h : x ∈ cutD ds lo hi) : x ∈ ds := mem_cut h
theorem cutD_len (ds : List D) (lo hi : Option Int) : (cutD ds lo hi).length ≤ ds.length := by
  unfold cutD
  rw [List.length_take, List.length_drop]
  omega
theorem change_ok {k : Nat} {ds : List D} (hk : ∀ x ∈ ds, Gd 60 4000 k x) (hl : ds.length ≤ 30) (t : Nat) (ht : t ≤ 60) (i : Int) (h0 : 0 ≤ i) (h6 : i < 6) : ∃ e, atI [PyData.list ds, .tuple (cutD ds none (some (-1))), .tuple (ds ++ cutD ds (some (-1)) none), .tuple (cutD ds (some 1) none), .tuple ds.reverse, .tuple (cutD (List.replicate 23 ds).flatten none (some (t : Int)))] i = some e ∧ Gd 60 4000 (k + 1) e := by
  obtain ⟨e, he, h⟩ := at_ex (ds := [PyData.list ds, .tuple (cutD ds none (some (-1))), .tuple (ds ++ cutD ds (some (-1)) none), .tuple (cutD ds (some 1) none), .tuple ds.reverse, .tuple (cutD (List.replicate 23 ds).flatten none (some (t : Int)))]) h0 h6
  refine ⟨e, h, ?_⟩
  simp only [List.mem_cons, List.not_mem_nil, or_false] at he
  rcases he with rfl | rfl | rfl | rfl | rfl | rfl
  · exact sub_gd (.inl rfl) hk (by omega) fun x h => h
  · exact sub_gd (.inr rfl) hk (by have := cutD_len ds none (some (-1)); omega) fun x h => mem_cutD h
  · exact sub_gd (.inr rfl) hk (by have := cutD_len ds (some (-1)) none; rw [List.length_append]; omega) fun x h => by
      rcases List.mem_append.mp h with h | h
      · exact h
      · exact mem_cutD h
  · exact sub_gd (.inr rfl) hk (by have := cutD_len ds (some 1) none; omega) fun x h => mem_cutD h
  · exact sub_gd (.inr rfl) hk (by rw [List.length_reverse]; omega) fun x h => List.mem_reverse.mp h
  · refine sub_gd (.inr rfl) hk (by rw [cutD_to, List.length_take]; omega) fun x h => ?_
    have h := mem_cutD h
    obtain ⟨l, hl, hx⟩ := List.mem_flatten.mp h
    rwa [(List.mem_replicate.mp hl).2] at hx
theorem int_ok {k : Nat} {i : Int} (hi : i.natAbs ≤ 2000) (j : Int) (h0 : 0 ≤ j) (h5 : j < 5) : ∃ e, atI [PyData.str (Str.ofString (toString i)), .int (-i), .int (i + 1), .bool (decide (i = 1)), .int (i + 1000)] j = some e ∧ Gd 60 4000 k e := by
  obtain ⟨e, he, h⟩ := at_ex (ds := [PyData.str (Str.ofString (toString i)), .int (-i), .int (i + 1), .bool (decide (i = 1)), .int (i + 1000)]) h0 h5
  refine ⟨e, h, Gd.flat' ?_ k⟩
  simp only [List.mem_cons, List.not_mem_nil, or_false] at he
  rcases he with rfl | rfl | rfl | rfl | rfl
  · exact strOk_of _
  · show (-i).natAbs ≤ 4000
    omega
  · show (i + 1).natAbs ≤ 4000
    omega
  · trivial
  · show (i + 1000).natAbs ≤ 4000
    omega
theorem spoilt_body (R : List D → Option D) (k : Nat) (d : D) (num : Int) (deep : Nat) (h0 : 0 ≤ num) (hd : In k d) (hR : ∀ k' x num', 1 ≤ deep → 0 ≤ num' → In k' x → ∃ e, R [x, .int num', .int ((deep : Int) - 1)] = some e ∧ Gd 60 4000 (k' + 3) e) :
    ∃ e, runB 6 3 (b_l_spoilt R) [d, .int num, .int deep] = some e ∧ Gd 60 4000 (k + 3) e := by
  unfold b_l_spoilt
  obtain ⟨e0, ho, hg⟩ := odd_run (num / 6)
  have hg := hg.mono (Nat.le_refl _) (Nat.le_refl _) (show 3 ≤ k + 3 by omega)
  have hI : (∃ i : Int, d = .int i ∧ i.natAbs ≤ 2000) ∨ ∃ ds k', k = k' + 1 ∧ d = .tuple ds ∧ ds.length ≤ 30 ∧ ∀ x ∈ ds, In k' x := by
    cases k with
    | zero => exact .inl hd
    | succ k =>
      rcases hd with h | ⟨ds, h1, h2, h3⟩
      · exact .inl h
      · exact .inr ⟨ds, k, rfl, h1, h2, h3⟩
  rcases hI with ⟨i, rfl, hi⟩ | ⟨ds, k', rfl, rfl, hl, hx⟩
  · walk_at "run"
    by_cases c : num / 6 % 2 = 0
    · rw [decide_eq_true c, dStr1_i hi]
      obtain ⟨e, h1, h2⟩ := int_ok (k := k + 3) hi (num / 12 % 5) (Int.emod_nonneg _ (by omega)) (Int.emod_lt_of_pos _ (by omega))
      walk_at "run"
      rw [h1]
      exact ⟨e, rfl, h2⟩
    · rw [decide_eq_false c]
      walk_at "run"
      rw [ho]
      exact ⟨e0, rfl, hg⟩
  · have hx' : ∀ x ∈ ds, Gd 60 4000 (k' + 3) x := fun x h => (hx x h).gd.mono (Nat.le_refl _) (Nat.le_refl _) (by omega)
    walk_at "run"
    by_cases c : (decide ((0 : Int) < deep) && (decide ((0 : Int) < ds.length) && decide (0 < num % 6))) = true
    · rw [if_pos c]
      rw [Bool.and_eq_true, Bool.and_eq_true, decide_eq_true_eq, decide_eq_true_eq] at c
      have c1 := c.1
      have c2 := c.2.1
      have q0 : 0 ≤ num / 6 % (ds.length : Int) := Int.emod_nonneg _ (by omega)
      have q1 : num / 6 % (ds.length : Int) < ds.length := Int.emod_lt_of_pos _ c2
      obtain ⟨q, hq⟩ : ∃ q : Nat, num / 6 % (ds.length : Int) = q := ⟨(num / 6 % (ds.length : Int)).toNat, by omega⟩
      obtain ⟨x, hxm, hxa⟩ := at_ex q0 q1
      obtain ⟨e, h1, h2⟩ := hR k' x (num / 126) (by omega) (by omega) (hx x hxm)
      walk_at "run"
      rw [hxa]
      walk_at "run"
      rw [h1, hq]
      walk_at "run"
      have : ((q : Int) + 1) = ((q + 1 : Nat) : Int) := rfl
      rw [this, cutD_from, cutD_to]
      walk_at "run"
      refine ⟨_, rfl, .inr ⟨_, .inr rfl, ?_, fun y hy => ?_⟩⟩
      · simp only [List.length_append, List.length_take, List.length_drop, List.length_cons, List.length_nil]
        omega
      · rcases List.mem_append.mp hy with hy | hy
        · rcases List.mem_append.mp hy with hy | hy
          · exact hx' y (List.mem_of_mem_take hy)
          · rw [List.mem_singleton.mp hy]
            exact h2
        · exact hx' y (List.mem_of_mem_drop hy)
    · rw [if_neg c]
      by_cases c : (decide ((0 : Int) < ds.length) && decide (num / 6 % 2 = 0)) = true
      · rw [if_pos c]
        rw [Bool.and_eq_true, decide_eq_true_eq] at c
        have c1 := c.1
        have hne : ds ≠ [] := fun e => by rw [e] at c1; exact absurd c1 (by decide)
        have q0 : 0 ≤ num / 72 % 5 := Int.emod_nonneg _ (by omega)
        have q1 : num / 72 % 5 < 5 := Int.emod_lt_of_pos _ (by omega)
        obtain ⟨t, ht⟩ : ∃ t : Nat, 19 + num / 72 % 5 = t := ⟨(19 + num / 72 % 5).toNat, by omega⟩
        obtain ⟨e, h1, h2⟩ := change_ok hx' hl t (by omega) (num / 12 % 6) (Int.emod_nonneg _ (by omega)) (Int.emod_lt_of_pos _ (by omega))
        have hcl := cutD_len ds (some (-1)) none
        rw [dMul23 hne hl]
        generalize (List.replicate 23 ds).flatten = F at h1 ⊢
        walk_at "run"
        rw [ht, dListOf_t, dBackT_t]
        walk_at "run"
        rw [h1]
        exact ⟨e, rfl, h2.mono (Nat.le_refl _) (Nat.le_refl _) (by omega)⟩
      · rw [if_neg c]
        rw [ho]
        exact ⟨e0, rfl, hg⟩
theorem spoilt_run : ∀ (n : Nat) (k : Nat) (d : D) (num : Int) (deep : Nat), deep ≤ n → 0 ≤ num → In k d → ∃ e, H_l_spoilt (n + 1) [d, .int num, .int deep] = some e ∧ Gd 60 4000 (k + 3) e := by
  intro n
  induction n with
  | zero =>
    intro k d num deep hn h0 hd
    exact spoilt_body _ k d num deep h0 hd fun _ _ _ h => absurd h (by omega)
  | succ n ih =>
    intro k d num deep hn h0 hd
    refine spoilt_body _ k d num deep h0 hd fun k' x num' h1 h2 h3 => ?_
    have := ih k' x num' (deep - 1) (by omega) h2 h3
    rwa [show ((deep - 1 : Nat) : Int) = (deep : Int) - 1 by omega] at this
theorem maybe_run {k : Nat} {d : D} {m : Int} (h0 : 0 ≤ m) (hd : In k d) : ∃ e, G_l_maybe [d, .int m] = some e ∧ Gd 60 4000 (k + 3) e := by
  unfold G_l_maybe b_l_maybe
  walk_at "run"
  by_cases c : m % 2 = 1
  · rw [decide_eq_true c]
    have q0 : 0 ≤ m / 2 % 4 := Int.emod_nonneg _ (by omega)
    have q1 : m / 2 % 4 < 4 := Int.emod_lt_of_pos _ (by omega)
    obtain ⟨t, ht⟩ : ∃ t : Nat, m / 2 % 4 = t := ⟨(m / 2 % 4).toNat, by omega⟩
    obtain ⟨e, h1, h2⟩ := spoilt_run 39 k d (m / 8) t (by omega) (by omega) hd
    have h1 : G_l_spoilt [d, .int (m / 8), .int t] = some e := h1
    walk_at "run"
    rw [ht, h1]
    exact ⟨e, rfl, h2⟩
  · rw [decide_eq_false c]
    exact ⟨d, rfl, hd.gd.mono (Nat.le_refl _) (Nat.le_refl _) (by omega)⟩
end Tw

set_option Elab.async false
set_option linter.all false
set_option maxRecDepth 100000
set_option maxHeartbeats 1000000
namespace Tw
open PySem PySem.Spec PyProof.Rows L2
local macro_rules | `(tactic| walk_at "run") => `(tactic| simp (disch := (first | omega | (simp only [List.length_map, List.length_append, List.length_cons, List.length_nil, labD_len, rng_lng, cut_len, List.length_drop, List.length_take]; omega))) only [ite_self, at0, at1, at2, isi_tt, isi_tl, isi_ti, isi_ii, isi_it, isi_bb, Bool.not_true, Bool.not_false, Bool.true_or, Bool.false_or, Bool.true_and, Bool.false_and, Bool.and_true, Bool.or_false, Bool.and_false, Bool.or_true, labD_at, r_wipe0, r_wipe1, r_wipe2, r_wipe3, r_appE, appD_l, dAddL', dAddT', ite_or, ite_and, r_run0, r_run1, r_run2, r_run3, r_run4, r_and, r_or, r_if, r_seq, r_1, r_2, r_c, r_call, r_cons, r_nil, r_ret, r_set, r_snil, r_asg, r_on1, r_tup0, r_tup1, r_tup2, r_tup3, r_tup4, r_tup5, r_tup6, r_lst0, r_lst1, r_lst2, r_lst3, r_lst4, r_lst5, r_lst6, r_sl, r_pn, r_ps, r_nm, r_int, r_v0, r_vs, r_rtO,
  andO_b, orO_b, ifO_b, seqO_nx, seqO_rt, seqO_ite, outD_ite, o_bind, o_map, List.map_cons, List.map_nil, List.length_cons, List.length_nil, List.cons_append, List.nil_append, List.set_cons_zero, List.set_cons_succ, Nat.reduceAdd, Nat.reduceSub, Nat.zero_add,
  List.replicate_succ, List.replicate_zero, dAdd_i, dSub_i, dNeg_i, dNot_b, dLt_i, dLe_i, dGt_i, dGe_i, dGeA_i, dMul_i, dMul_j, dDiv_i, dMod_i, dEq_i, dNe_i, dEq_b, dLen_l, dLen_t, dTupOf_l, dTupOf_t, dMin2_i, dMax2_i, dInt1_b, dIx_l, dIx_t, dSl_l, dSl_t, r_gTu2, r_gTu3,
  Bool.false_eq_true, if_true, if_false, eq_self, List.length_map, List.length_replicate])
/-! ### the law's trees -/
abbrev iN (k : Nat) : D := .int k
theorem sort_nats (l : List Nat) : ∃ m : List Nat, dSorted (.list (l.map iN)) = some (.list (m.map iN)) ∧ (sortI (l.map fun (k : Nat) => (k : Int))) = m.map (fun (k : Nat) => (k : Int)) ∧ m.Perm l := by
  have e : l.map iN = (l.map fun (k : Nat) => (k : Int)).map PyData.int := by rw [List.map_map]; rfl
  have hp := sortI_perm (l.map fun (k : Nat) => (k : Int))
  have : ∃ m : List Nat, (sortI (l.map fun (k : Nat) => (k : Int))) = m.map (fun (k : Nat) => (k : Int)) := by
    refine ⟨(sortI (l.map fun (k : Nat) => (k : Int))).map Int.toNat, ?_⟩
    rw [List.map_map]
    symm
    refine (List.map_congr_left fun x hx => ?_).trans (List.map_id _)
    obtain ⟨k, _, rfl⟩ := List.mem_map.mp (hp.mem_iff.mp hx)
    rfl
  obtain ⟨m, hm⟩ := this
  refine ⟨m, ?_, hm, ?_⟩
  · unfold dSorted
    rw [e]
    show (match intsOf _ with
      | some ns => some (PyData.list ((sortI ns).map .int))
      | none => _) = _
    rw [intsOf_map]
    show some (PyData.list (List.map PyData.int (sortI _))) = _
    rw [hm, List.map_map]
    rfl
  · rw [hm] at hp
    have := hp.map Int.toNat
    rw [List.map_map, List.map_map] at this
    have e2 : (Int.toNat ∘ fun (k : Nat) => (k : Int)) = id := by funext k; rfl
    rwa [e2, List.map_id, List.map_id] at this
theorem insert_run (l : List Nat) (q x : Nat) : (l.map iN).take q ++ [iN x] ++ (l.map iN).drop q = (l.take q ++ [x] ++ l.drop q).map iN := by
  rw [List.map_append, List.map_append, List.map_take, List.map_drop]
  rfl
theorem prs_comp {n : Nat} {ls : List Ln} (h : ∀ l ∈ ls, LnOk n l) {ks : List Nat} (hk : ∀ k ∈ ks, k < ls.length) (hl : ks.length ≤ 1000) {fi : It1} {ρ : Rho} {X : Option D} {v g : Nat} {elt : Ex} (hX : xComp fi [v] (gNm v) xYes elt ρ = X) (hi : fi ρ = some (ks.map iN))
    (hs : ∀ k : Nat, k < ls.length → elt ((wipeR ρ [v]).set v (some (.int k))) = dSl (dLn (lnAt ls k)) none (some 2)) : X = some (.list (ks.map fun k => dPn (ends (lnAt ls k)))) := by
  rw [← hX, comp_typed' ks iN (fun k => dPn (ends (lnAt ls k))) hi (by omega) fun k hk' => ?_]
  refine ⟨_, rfl, ?_⟩
  rw [hs k (hk k hk'), line_pair h (hk k hk')]
theorem tree_run {n : Nat} {ls : List Ln} (hn : n ≤ 7) (hl : ls.length ≤ 30) (h : ∀ l ∈ ls, LnOk n l) (m : Int) : ∃ ks : List Nat, G_l_tree [dGr n ls, .int m] = some (dNs ks) ∧ ks.length ≤ 30 ∧ ∀ k ∈ ks, k < ls.length := by
  unfold G_l_tree b_l_tree
  walk_at "run"
  generalize e : sFor _ _ _ _ = o
  obtain ⟨ρ', rfl, hq⟩ := for_all e (iR1_i (n := ls.length) (by walk_at "run") (by omega)) (fun i ρ => ∃ l x3 x5, ρ = [some (dGr n ls), some (.int m), some (.list (l.map iN)), x3, none, x5, none, none] ∧ l.length = i ∧ ∀ x ∈ l, x < i)
    ⟨[], _, _, rfl, rfl, fun _ h => by cases h⟩ fun i d ρ hd hp => by
      obtain ⟨l, x3, x5, rfl, hl', hk⟩ := hp
      obtain ⟨hi, rfl⟩ := rng_ix hd
      refine ⟨_, rfl, ?_⟩
      rw [Int.zero_add]
      walk_at "run"
      rw [drawn_run]
      have q0 : 0 ≤ drawn m i % ((i : Int) + 1) := Int.emod_nonneg _ (by omega)
      have q1 : drawn m i % ((i : Int) + 1) < (i : Int) + 1 := Int.emod_lt_of_pos _ (by omega)
      obtain ⟨q, hq⟩ : ∃ q : Nat, drawn m i % ((i : Int) + 1) = q := ⟨(drawn m i % ((i : Int) + 1)).toNat, by omega⟩
      walk_at "run"
      rw [hq]
      rw [cutD_to, cutD_from]
      walk_at "run"
      refine ⟨_, rfl, l.take q ++ [i] ++ l.drop q, _, _, by rw [← insert_run], ?_, fun x hx => ?_⟩
      · simp only [List.length_append, List.length_take, List.length_drop, List.length_cons, List.length_nil]
        omega
      · rcases List.mem_append.mp hx with hx | hx
        · rcases List.mem_append.mp hx with hx | hx
          · exact Nat.lt_succ_of_lt (hk x (List.mem_of_mem_take hx))
          · rw [List.mem_singleton.mp hx]; exact Nat.lt_succ_self _
        · exact Nat.lt_succ_of_lt (hk x (List.mem_of_mem_drop hx))
  obtain ⟨l, x3, x5, rfl, hl', hk⟩ := hq
  clear e
  rw [rng_lng] at hl' hk
  walk_at "run"
  generalize e : sFor _ _ _ _ = o
  obtain ⟨ρ', rfl, hq⟩ := for_all e (ds := l.map iN) rfl (fun i ρ => ∃ f x3 x6, ρ = [some (dGr n ls), some (.int m), some (.list (l.map iN)), x3, some (.list (f.map iN)), x5, x6, none] ∧ f.length ≤ i ∧ ∀ x ∈ f, x < ls.length)
    ⟨[], _, _, rfl, Nat.le_refl _, fun _ h => by cases h⟩ fun i d ρ hd hp => by
      obtain ⟨f, x3, x6, rfl, hf, hfk⟩ := hp
      rw [List.getElem?_map] at hd
      cases hd' : l[i]? with
      | none => rw [hd'] at hd; cases hd
      | some x =>
        rw [hd'] at hd
        obtain rfl : iN x = d := Option.some.inj hd
        have hxl : x < ls.length := hk x (List.mem_of_getElem? hd')
        have hil : i < l.length := (List.getElem?_eq_some_iff.mp hd').1
        refine ⟨_, rfl, ?_⟩
        walk_at "run"
        generalize hX : xComp (iSeq (xVar 4)) _ _ _ _ _ = X
        obtain rfl := prs_comp (g := 0) h hfk (by omega) hX rfl fun k hk => by
          walk_at "run"
          rw [(ln_at hk).1]
          walk_at "run"
        walk_at "run"
        rw [l_joined' hn h hfk]
        walk_at "run"
        rw [grp_len]
        walk_at "run"
        generalize hY : xComp (iSeq _) _ _ _ _ _ = Y
        have hfx : ∀ y ∈ f ++ [x], y < ls.length := fun y hy => by
          rcases List.mem_append.mp hy with hy | hy
          · exact hfk y hy
          · rw [List.mem_singleton.mp hy]; exact hxl
        obtain rfl := prs_comp (g := 0) h hfx (by rw [List.length_append]; show f.length + 1 ≤ 1000; omega) hY (iSeq_l (by walk_at "run"; rw [List.map_append]; rfl)) fun k hk => by
          walk_at "run"
          rw [(ln_at hk).1]
          walk_at "run"
        walk_at "run"
        rw [l_joined' hn h hfx]
        walk_at "run"
        rw [grp_len]
        walk_at "run"
        generalize decide (((reps n (lbP (prs ls (f ++ [x])))).length : Int) < ((reps n (lbP (prs ls f))).length : Int)) = b
        cases b with
        | true =>
          walk_at "run"
          exact ⟨_, rfl, f ++ [x], _, _, by rw [List.map_append]; rfl, by rw [List.length_append]; exact Nat.succ_le_succ hf, hfx⟩
        | false =>
          walk_at "run"
          exact ⟨_, rfl, f, _, _, rfl, by omega, hfk⟩
  obtain ⟨f, x3, x6, rfl, hf, hfk⟩ := hq
  rw [List.length_map] at hf
  obtain ⟨ks, h1, _, h2⟩ := sort_nats f
  walk_at "run"
  rw [h1]
  exact ⟨ks, rfl, by rw [h2.length_eq]; omega, fun k hk => hfk k (h2.mem_iff.mp hk)⟩
theorem sort_pairs (l : List (Nat × Nat)) : ∃ m : List (Nat × Nat), dSorted (.list (l.map dPn)) = some (.list (m.map dPn)) ∧ m.Perm l := by
  cases l with
  | nil => exact ⟨[], rfl, .refl _⟩
  | cons p r =>
    have e : ∀ l : List (Nat × Nat), l.map dPn = (l.map fun p => ((p.1 : Int), (p.2 : Int))).map dPr := fun l => by rw [List.map_map]; rfl
    have hp := sortP_perm ((p :: r).map fun p => ((p.1 : Int), (p.2 : Int)))
    have : ∃ m : List (Nat × Nat), sortP ((p :: r).map fun p => ((p.1 : Int), (p.2 : Int))) = m.map (fun p => ((p.1 : Int), (p.2 : Int))) := by
      refine ⟨(sortP ((p :: r).map fun p => ((p.1 : Int), (p.2 : Int)))).map fun q => (q.1.toNat, q.2.toNat), ?_⟩
      rw [List.map_map]
      symm
      refine (List.map_congr_left fun x hx => ?_).trans (List.map_id _)
      obtain ⟨k, _, rfl⟩ := List.mem_map.mp (hp.mem_iff.mp hx)
      rfl
    obtain ⟨m, hm⟩ := this
    refine ⟨m, ?_, ?_⟩
    · have : intsOf ((p :: r).map dPn) = none := rfl
      unfold dSorted
      show (match intsOf ((p :: r).map dPn) with
        | some ns => some (PyData.list ((sortI ns).map .int))
        | none => (pairsOf ((p :: r).map dPn)).map fun ps => PyData.list ((sortP ps).map dPr)) = _
      rw [this, e, pairsOf_map]
      show some (PyData.list ((sortP _).map dPr)) = _
      rw [hm, e]
    · rw [hm] at hp
      have := hp.map fun q : Int × Int => (q.1.toNat, q.2.toNat)
      rw [List.map_map, List.map_map] at this
      have e2 : ((fun q : Int × Int => (q.1.toNat, q.2.toNat)) ∘ fun p : Nat × Nat => ((p.1 : Int), (p.2 : Int))) = id := by funext k; rfl
      rwa [e2, List.map_id, List.map_id] at this
theorem four_at {a b c d : Int} {i m : Int} (hi : 0 ≤ i ∧ i < 4) (ha : 0 ≤ a ∧ a < m) (hb : 0 ≤ b ∧ b < m) (hc : 0 ≤ c ∧ c < m) (hd : 0 ≤ d ∧ d < m) : ∃ v : Nat, atI [PyData.int a, .int b, .int c, .int d] i = some (.int v) ∧ (v : Int) < m := by
  have : i = 0 ∨ i = 1 ∨ i = 2 ∨ i = 3 := by omega
  have k : ∀ x : Int, 0 ≤ x ∧ x < m → ∃ v : Nat, some (PyData.int x) = some (.int v) ∧ (v : Int) < m := fun x h => ⟨x.toNat, by rw [Int.toNat_of_nonneg h.1], by omega⟩
  rcases this with rfl | rfl | rfl | rfl
  · exact k a ha
  · exact k b hb
  · exact k c hc
  · exact k d hd
theorem nat_at {l : List Nat} {i : Nat} (h : i < l.length) : ∃ v ∈ l, atI (l.map iN) i = some (iN v) := ⟨l[i], List.getElem_mem h, atI_nat (by rw [List.getElem?_map, List.getElem?_eq_getElem h]; rfl)⟩
theorem min_nat (a b : Nat) : (if (b : Int) < a then (b : Int) else a) = ((if b < a then b else a : Nat) : Int) := by split <;> split <;> omega
theorem max_nat (a b : Nat) : (if (b : Int) > a then (b : Int) else a) = ((if b > a then b else a : Nat) : Int) := by split <;> split <;> omega
theorem plain_run {n : Nat} (hn : 1 ≤ n ∧ n ≤ 7) {m : Int} (h0 : 0 ≤ m) : ∃ ps : List (Nat × Nat), G_l_plain_tree [.int m, .int n] = some (.tuple (ps.map dPn)) ∧ ps.length ≤ 30 ∧ ∀ p ∈ ps, p.1 < n ∧ p.2 < n := by
  unfold G_l_plain_tree b_l_plain_tree
  walk_at "run"
  generalize e : sFor _ _ _ _ = o
  obtain ⟨ρ', rfl, hq⟩ := for_all e (iR1_i (n := n) (by walk_at "run") (by omega)) (fun i ρ => ∃ l x3 x5, ρ = [some (.int m), some (.int n), some (.list (l.map iN)), x3, none, x5, none, none] ∧ l.length = i ∧ ∀ x ∈ l, x < i)
    ⟨[], _, _, rfl, rfl, fun _ h => by cases h⟩ fun i d ρ hd hp => by
      obtain ⟨l, x3, x5, rfl, hl', hk⟩ := hp
      obtain ⟨hi, rfl⟩ := rng_ix hd
      refine ⟨_, rfl, ?_⟩
      rw [Int.zero_add]
      walk_at "run"
      rw [drawn_run]
      have q0 : 0 ≤ drawn m (30 + i) % ((i : Int) + 1) := Int.emod_nonneg _ (by omega)
      have q1 : drawn m (30 + i) % ((i : Int) + 1) < (i : Int) + 1 := Int.emod_lt_of_pos _ (by omega)
      obtain ⟨q, hq⟩ : ∃ q : Nat, drawn m (30 + i) % ((i : Int) + 1) = q := ⟨(drawn m (30 + i) % ((i : Int) + 1)).toNat, by omega⟩
      walk_at "run"
      rw [hq]
      rw [cutD_to, cutD_from]
      walk_at "run"
      refine ⟨_, rfl, l.take q ++ [i] ++ l.drop q, _, _, by rw [← insert_run], ?_, fun x hx => ?_⟩
      · simp only [List.length_append, List.length_take, List.length_drop, List.length_cons, List.length_nil]
        omega
      · rcases List.mem_append.mp hx with hx | hx
        · rcases List.mem_append.mp hx with hx | hx
          · exact Nat.lt_succ_of_lt (hk x (List.mem_of_mem_take hx))
          · rw [List.mem_singleton.mp hx]; exact Nat.lt_succ_self _
        · exact Nat.lt_succ_of_lt (hk x (List.mem_of_mem_drop hx))
  obtain ⟨l, x3, x5, rfl, hl', hk⟩ := hq
  clear e
  rw [rng_lng] at hl' hk
  walk_at "run"
  generalize e : sFor _ _ _ _ = o
  obtain ⟨ρ', rfl, hq⟩ := for_all e (iR2_i (i := 1) (j := n) rfl rfl (by omega) (by omega)) (fun i ρ => ∃ f x3 x6 x7, ρ = [some (.int m), some (.int n), some (.list (l.map iN)), x3, some (.list (f.map dPn)), x5, x6, x7] ∧ f.length ≤ i ∧ ∀ p ∈ f, p.1 < n ∧ p.2 < n)
    ⟨[], _, _, _, rfl, Nat.le_refl _, fun _ h => by cases h⟩ fun i d ρ hd hp => by
      obtain ⟨f, x3, x6, x7, rfl, hf, hfk⟩ := hp
      obtain ⟨hi, rfl⟩ := rng_ix hd
      refine ⟨_, rfl, ?_⟩
      walk_at "run"
      rw [drawn_run]
      generalize drawn m (1 + i) = D
      have a1 : 0 ≤ D % (1 + i) := Int.emod_nonneg _ (by omega)
      have a2 : D % (1 + i) < 1 + i := Int.emod_lt_of_pos _ (by omega)
      have hm2 : 0 < (if 1 + (i : Int) < 2 then 1 + (i : Int) else 2) := by split <;> omega
      have a3 : 0 ≤ D % (if 1 + (i : Int) < 2 then 1 + (i : Int) else 2) := Int.emod_nonneg _ (by omega)
      have a4 : D % (if 1 + (i : Int) < 2 then 1 + (i : Int) else 2) < 1 + i := by
        have := Int.emod_lt_of_pos D hm2
        split at this <;> split <;> omega
      have a5 : 0 ≤ m / 7 % 4 := Int.emod_nonneg _ (by omega)
      have a6 : m / 7 % 4 < 4 := Int.emod_lt_of_pos _ (by omega)
      obtain ⟨v, hv, hvi⟩ := four_at (i := m / 7 % 4) ⟨a5, a6⟩ ⟨a1, a2⟩ (b := 1 + (i : Int) - 1) (by omega) ⟨a3, a4⟩ ⟨a1, a2⟩
      walk_at "run"
      rw [hv]
      walk_at "run"
      obtain ⟨x, hx1, hx2⟩ := nat_at (l := l) (i := 1 + i) (by omega)
      obtain ⟨y, hy1, hy2⟩ := nat_at (l := l) (i := v) (by omega)
      rw [show (1 + (i : Int)) = ((1 + i : Nat) : Int) by omega, hx2, hy2]
      walk_at "run"
      rw [min_nat, max_nat]
      have hx3 := hk x hx1
      have hy3 := hk y hy1
      refine ⟨_, rfl, f ++ [(if y < x then y else x, if y > x then y else x)], _, _, _, by rw [List.map_append]; rfl, by rw [List.length_append]; exact Nat.succ_le_succ hf, fun p hp => ?_⟩
      rcases List.mem_append.mp hp with hp | hp
      · exact hfk p hp
      · rw [List.mem_singleton.mp hp]
        constructor
        · show (if y < x then y else x) < n
          split <;> omega
        · show (if y > x then y else x) < n
          split <;> omega
  obtain ⟨f, x3, x6, x7, rfl, hf, hfk⟩ := hq
  rw [rng_lng] at hf
  obtain ⟨ks, h1, h2⟩ := sort_pairs f
  walk_at "run"
  rw [h1]
  exact ⟨ks, rfl, by rw [h2.length_eq]; omega, fun k hk => hfk k (h2.mem_iff.mp hk)⟩
end Tw

set_option Elab.async false
set_option linter.all false
set_option maxRecDepth 100000
set_option maxHeartbeats 1000000
namespace Tw
open PySem PySem.Spec PyProof.Rows L2
/-! ### what is joined -/
inductive Rch (ps : List (Nat × Nat)) (i : Nat) : Nat → Prop
  | refl : Rch ps i i
  | fwd {j k : Nat} : Rch ps i j → (j, k) ∈ ps → Rch ps i k
  | bwd {j k : Nat} : Rch ps i j → (k, j) ∈ ps → Rch ps i k
namespace Rch
variable {ps qs : List (Nat × Nat)} {i j k : Nat}
theorem trans (h : Rch ps i j) (h' : Rch ps j k) : Rch ps i k := by
  induction h' with
  | refl => exact h
  | fwd _ m ih => exact ih.fwd m
  | bwd _ m ih => exact ih.bwd m
theorem one (m : (i, j) ∈ ps) : Rch ps i j := refl.fwd m
theorem symm (h : Rch ps i j) : Rch ps j i := by
  induction h with
  | refl => exact refl
  | fwd _ m ih => exact (refl.bwd m).trans ih
  | bwd _ m ih => exact (refl.fwd m).trans ih
theorem mono (s : ∀ p ∈ ps, p ∈ qs) (h : Rch ps i j) : Rch qs i j := by
  induction h with
  | refl => exact refl
  | fwd _ m ih => exact ih.fwd (s _ m)
  | bwd _ m ih => exact ih.bwd (s _ m)
/-- one more pair -/
theorem snoc {a b : Nat} : Rch (ps ++ [(a, b)]) i j ↔ Rch ps i j ∨ (Rch ps i a ∧ Rch ps b j) ∨ (Rch ps i b ∧ Rch ps a j) := by
  constructor
  · intro h
    induction h with
    | refl => exact .inl refl
    | @fwd j k _ m ih =>
      rcases List.mem_append.mp m with m | m
      · rcases ih with ih | ih | ih
        · exact .inl (ih.fwd m)
        · exact .inr (.inl ⟨ih.1, ih.2.fwd m⟩)
        · exact .inr (.inr ⟨ih.1, ih.2.fwd m⟩)
      · have e := List.mem_singleton.mp m
        cases e
        rcases ih with ih | ih | ih
        · exact .inr (.inl ⟨ih, refl⟩)
        · exact .inr (.inl ⟨ih.1, refl⟩)
        · exact .inl ih.1
    | @bwd j k _ m ih =>
      rcases List.mem_append.mp m with m | m
      · rcases ih with ih | ih | ih
        · exact .inl (ih.bwd m)
        · exact .inr (.inl ⟨ih.1, ih.2.bwd m⟩)
        · exact .inr (.inr ⟨ih.1, ih.2.bwd m⟩)
      · have e := List.mem_singleton.mp m
        cases e
        rcases ih with ih | ih | ih
        · exact .inr (.inr ⟨ih, refl⟩)
        · exact .inl ih.1
        · exact .inr (.inr ⟨ih.1, refl⟩)
  · have s : ∀ p ∈ ps, p ∈ ps ++ [(a, b)] := fun p h => List.mem_append_left _ h
    have m : (a, b) ∈ ps ++ [(a, b)] := List.mem_append_right _ (List.mem_singleton.mpr rfl)
    rintro (h | h | h)
    · exact h.mono s
    · exact ((h.1.mono s).fwd m).trans (h.2.mono s)
    · exact ((h.1.mono s).bwd m).trans (h.2.mono s)
theorem nil (h : Rch [] i j) : i = j := by
  cases h with
  | refl => rfl
  | fwd _ m => cases m
  | bwd _ m => cases m
theorem lt {n : Nat} (hp : PsOk n ps) (h : Rch ps i j) (hi : i < n) : j < n := by
  induction h with
  | refl => exact hi
  | fwd _ m _ => exact (hp _ m).2
  | bwd _ m _ => exact (hp _ m).1
end Rch
theorem lbP_snoc (ps : List (Nat × Nat)) (p : Nat × Nat) : lbP (ps ++ [p]) = stP (lbP ps) p.1 p.2 := by
  unfold lbP
  rw [List.foldl_append]
  rfl
theorem stP_eq {g : Nat → Int} {a b i j : Nat} : stP g a b i = stP g a b j ↔ g i = g j ∨ (g i = g a ∧ g b = g j) ∨ (g i = g b ∧ g a = g j) := by
  unfold stP
  have k : ∀ x, (if x = (if g b > g a then g b else g a) then (if g b < g a then g b else g a) else x) = if x = g a ∨ x = g b then (if g b < g a then g b else g a) else x := by
    intro x
    repeat' split
    all_goals omega
  rw [k, k]
  repeat' split
  all_goals omega
theorem snoc_cases {α : Type} (ps : List α) : ps = [] ∨ ∃ qs p, ps = qs ++ [p] := by
  rcases List.eq_nil_or_concat ps with h | ⟨qs, p, h⟩
  · exact .inl h
  · exact .inr ⟨qs, p, by rw [h, List.concat_eq_append]⟩
theorem rch_iff : ∀ (ps : List (Nat × Nat)) (i j : Nat), lbP ps i = lbP ps j ↔ Rch ps i j := by
  suffices h : ∀ (m : Nat) (ps : List (Nat × Nat)), ps.length = m → ∀ i j : Nat, lbP ps i = lbP ps j ↔ Rch ps i j from fun ps => h _ ps rfl
  intro m
  induction m with
  | zero =>
    intro ps hl i j
    obtain rfl := List.length_eq_zero_iff.mp hl
    constructor
    · intro h
      have : (i : Int) = j := h
      obtain rfl : i = j := by omega
      exact .refl
    · intro h
      rw [h.nil]
  | succ m ih =>
    intro ps hl i j
    rcases snoc_cases ps with rfl | ⟨qs, p, rfl⟩
    · cases hl
    · have hq : qs.length = m := by simpa using hl
      have ih := ih qs hq
      rw [lbP_snoc, stP_eq, ih, ih, ih, ih, ih]
      exact Rch.snoc.symm
/-! ### how many groups -/
def cc (n : Nat) (ps : List (Nat × Nat)) : Nat := (reps n (lbP ps)).length
theorem reps_congr {n : Nat} {g h : Nat → Int} (s : Same n g h) (hg : LbOk n g) (hh : LbOk n h) : reps n g = reps n h := by
  have key : ∀ {g h : Nat → Int}, Same n g h → LbOk n g → LbOk n h → ∀ i, i < n → g i = i → h i = i := by
    intro g h s hg hh i hi e
    have a1 := hh.lo i hi
    have a2 := hh.le i hi
    have a3 := hh.fix i hi
    have hl : (h i).toNat < n := by omega
    have := (s (h i).toNat i hl hi).mpr a3
    rw [e] at this
    have b2 := hg.le _ hl
    omega
  unfold reps
  refine List.filter_congr fun i hi => ?_
  have hi := List.mem_range.mp hi
  have s' : Same n h g := fun i j hi hj => (s i j hi hj).symm
  exact decide_eq_decide.mpr ⟨key s hg hh i hi, key s' hh hg i hi⟩
theorem cc_congr {n : Nat} {ps qs : List (Nat × Nat)} (hp : PsOk n ps) (hq : PsOk n qs) (h : ∀ i j, Rch ps i j ↔ Rch qs i j) : cc n ps = cc n qs := by
  unfold cc
  rw [reps_congr (fun i j _ _ => by rw [rch_iff, rch_iff]; exact h i j) (lbP_ok hp) (lbP_ok hq)]
theorem cc_mem {n : Nat} {ps qs : List (Nat × Nat)} (hp : PsOk n ps) (hq : PsOk n qs) (h : ∀ p, p ∈ ps ↔ p ∈ qs) : cc n ps = cc n qs :=
  cc_congr hp hq fun _ _ => ⟨.mono fun p hp => (h p).mp hp, .mono fun p hp => (h p).mpr hp⟩
theorem cc_nil (n : Nat) : cc n [] = n := by
  unfold cc reps
  rw [List.filter_eq_self.mpr fun i _ => decide_eq_true (by rfl), List.length_range]
theorem filter_one {l : List Nat} (nd : l.Nodup) {x : Nat} (hx : x ∈ l) {p q : Nat → Bool} (hq : ∀ i ∈ l, q i = (p i && !decide (i = x))) (hp : p x = true) : (l.filter q).length + 1 = (l.filter p).length := by
  induction l with
  | nil => cases hx
  | cons a r ih =>
    have nd' := List.nodup_cons.mp nd
    have hqa := hq a List.mem_cons_self
    have hqr : ∀ i ∈ r, q i = (p i && !decide (i = x)) := fun i hi => hq i (List.mem_cons_of_mem _ hi)
    by_cases e : a = x
    · subst e
      have h1 : q a = false := by rw [hqa]; simp
      have h2 : r.filter q = r.filter p := List.filter_congr fun i hi => by
        rw [hqr i hi]
        have : ¬ i = a := fun e => nd'.1 (e ▸ hi)
        simp [this]
      rw [List.filter_cons, h1, List.filter_cons, hp, h2]
      rfl
    · have hx' : x ∈ r := by
        rcases List.mem_cons.mp hx with h | h
        · exact absurd h.symm e
        · exact h
      have ih := ih nd'.2 hx' hqr
      have h1 : q a = p a := by rw [hqa]; simp [e]
      rw [List.filter_cons, List.filter_cons, h1]
      split
      · rw [List.length_cons, List.length_cons, ih]
      · exact ih
theorem cc_snoc {n : Nat} {ps : List (Nat × Nat)} {p : Nat × Nat} (hp : PsOk n ps) (ha : p.1 < n) (hb : p.2 < n) : (Rch ps p.1 p.2 → cc n (ps ++ [p]) = cc n ps) ∧ (¬ Rch ps p.1 p.2 → cc n (ps ++ [p]) + 1 = cc n ps) := by
  have hp' : PsOk n (ps ++ [p]) := fun q hq => by
    rcases List.mem_append.mp hq with hq | hq
    · exact hp q hq
    · rw [List.mem_singleton.mp hq]; exact ⟨ha, hb⟩
  constructor
  · intro h
    refine cc_congr hp' hp fun i j => ?_
    obtain ⟨a, b⟩ := p
    rw [Rch.snoc]
    constructor
    · rintro (q | q | q)
      · exact q
      · exact q.1.trans (Rch.trans h q.2)
      · exact q.1.trans (Rch.trans (Rch.symm h) q.2)
    · exact .inl
  · intro h
    unfold cc reps
    rw [lbP_snoc]
    have ok := lbP_ok hp
    rw [← rch_iff] at h
    generalize lbP ps = g at ok h
    have h1 := ok.lo _ ha
    have h2 := ok.lo _ hb
    have h3 := ok.le _ ha
    have h4 := ok.le _ hb
    have h5 := ok.fix _ ha
    have h6 := ok.fix _ hb
    obtain ⟨hi, he, hg⟩ : ∃ hi : Nat, ((hi : Int) = if g p.2 > g p.1 then g p.2 else g p.1) ∧ g hi = hi := by
      by_cases c : g p.2 > g p.1
      · refine ⟨(g p.2).toNat, by rw [if_pos c]; omega, by omega⟩
      · refine ⟨(g p.1).toNat, by rw [if_neg c]; omega, by omega⟩
    have hn : hi < n := by split at he <;> omega
    refine filter_one List.nodup_range (List.mem_range.mpr hn) (fun i hm => ?_) (decide_eq_true hg)
    have hm := List.mem_range.mp hm
    have g2 := ok.le i hm
    rw [Bool.eq_iff_iff, Bool.and_eq_true, decide_eq_true_eq, decide_eq_true_eq, Bool.not_eq_true', decide_eq_false_iff_not]
    unfold stP
    rw [← he]
    have hlo : (if g p.2 < g p.1 then g p.2 else g p.1) < hi := by
      rw [he]
      repeat' split
      all_goals omega
    generalize (if g p.2 < g p.1 then g p.2 else g p.1) = lo at hlo
    split <;> constructor <;> intro q <;> omega
theorem cc_ge {n : Nat} : ∀ (m : Nat) (ps : List (Nat × Nat)), ps.length = m → PsOk n ps → n ≤ cc n ps + m := by
  intro m
  induction m with
  | zero =>
    intro ps hl _
    obtain rfl := List.length_eq_zero_iff.mp hl
    rw [cc_nil]
    omega
  | succ m ih =>
    intro ps hl hp
    rcases snoc_cases ps with rfl | ⟨qs, p, rfl⟩
    · cases hl
    · have hq : qs.length = m := by simpa using hl
      have hpq : PsOk n qs := fun q h => hp q (List.mem_append_left _ h)
      have hpp := hp p (List.mem_append_right _ (List.mem_singleton.mpr rfl))
      have ih := ih qs hq hpq
      have := cc_snoc hpq hpp.1 hpp.2
      by_cases h : Rch qs p.1 p.2
      · have := this.1 h; omega
      · have := this.2 h; omega
theorem cc_one {n : Nat} {ps : List (Nat × Nat)} (hp : PsOk n ps) (h : cc n ps = 1) {i j : Nat} (hi : i < n) (hj : j < n) : Rch ps i j := by
  have ok := lbP_ok hp
  rw [← rch_iff]
  unfold cc at h
  have key : ∀ i, i < n → (lbP ps i).toNat ∈ reps n (lbP ps) := fun i hi => by
    have a1 := ok.lo i hi
    have a2 := ok.le i hi
    have a3 := ok.fix i hi
    exact reps_mem.mpr ⟨by omega, by omega⟩
  have k1 := key i hi
  have k2 := key j hj
  have b1 := ok.lo i hi
  have b2 := ok.lo j hj
  match e : reps n (lbP ps), h with
  | [x], _ =>
    rw [e] at k1 k2
    have := List.mem_singleton.mp k1
    have := List.mem_singleton.mp k2
    omega
theorem one_cc {n : Nat} (hn : 1 ≤ n) {ps : List (Nat × Nat)} (hp : PsOk n ps) (h : ∀ i j, i < n → j < n → Rch ps i j) : cc n ps = 1 := by
  have ok := lbP_ok hp
  unfold cc
  have e : reps n (lbP ps) = (List.range n).filter fun i => decide (i = 0) := by
    unfold reps
    refine List.filter_congr fun i hi => ?_
    have hi := List.mem_range.mp hi
    have h0 := ok.lo 0 (by omega)
    have h1 := ok.le 0 (by omega)
    have := (rch_iff ps i 0).mpr (h i 0 hi (by omega))
    exact decide_eq_decide.mpr ⟨fun e => by omega, fun e => by subst e; omega⟩
  rw [e]
  obtain ⟨m, rfl⟩ : ∃ m, n = m + 1 := ⟨n - 1, by omega⟩
  rw [List.range_succ_eq_map, List.filter_cons, if_pos (by rfl), List.filter_eq_nil_iff.mpr fun x hx => by
    obtain ⟨y, _, rfl⟩ := List.mem_map.mp hx
    simp]
  rfl
/-! ### trees of lines -/
def del (ks : List Nat) (c : Int) : List Nat := ks.filter fun k => !decide ((k : Int) = c)
theorem del_mem {ks : List Nat} {c : Int} {k : Nat} : k ∈ del ks c ↔ k ∈ ks ∧ (k : Int) ≠ c := by
  unfold del
  rw [List.mem_filter, Bool.not_eq_true', decide_eq_false_iff_not]
theorem del_no {ks : List Nat} {c : Int} (h : ∀ k ∈ ks, (k : Int) ≠ c) : del ks c = ks := List.filter_eq_self.mpr fun k hk => by simp [h k hk]
theorem del_len {ks : List Nat} (nd : ks.Nodup) {c : Nat} (h : c ∈ ks) : (del ks c).length + 1 = ks.length := by
  have := filter_one nd h (p := fun _ => true) (q := fun k => !decide ((k : Int) = (c : Int))) (fun i _ => by
    rw [Bool.true_and]
    congr 1
    exact decide_eq_decide.mpr (by omega)) rfl
  rw [List.filter_eq_self.mpr fun _ _ => rfl] at this
  exact this
/-- lines of a ground -/
structure LsOk (n : Nat) (ls : List Ln) (ks : List Nat) : Prop where
  ok : ∀ l ∈ ls, LnOk n l
  mem : ∀ k ∈ ks, k < ls.length
theorem prs_mem {ls : List Ln} {ks : List Nat} {p : Nat × Nat} : p ∈ prs ls ks ↔ ∃ k ∈ ks, ends (lnAt ls k) = p := by
  unfold prs
  rw [List.mem_map]
theorem prs_sub {ls : List Ln} {ks js : List Nat} (h : ∀ k ∈ ks, k ∈ js) : ∀ p ∈ prs ls ks, p ∈ prs ls js := fun p hp => by
  obtain ⟨k, hk, e⟩ := prs_mem.mp hp
  exact prs_mem.mpr ⟨k, h k hk, e⟩
/-- a tree: n - 1 lines that join all -/
structure Tre (n : Nat) (ls : List Ln) (ks : List Nat) : Prop where
  ok : ∀ l ∈ ls, LnOk n l
  mem : ∀ k ∈ ks, k < ls.length
  nd : ks.Nodup
  len : ks.length + 1 = n
  cc : cc n (prs ls ks) = 1
theorem Tre.pok {n : Nat} {ls : List Ln} {ks : List Nat} (T : Tre n ls ks) : PsOk n (prs ls ks) := prs_ok T.ok T.mem
theorem Tre.join {n : Nat} {ls : List Ln} {ks : List Nat} (T : Tre n ls ks) {i j : Nat} (hi : i < n) (hj : j < n) : Rch (prs ls ks) i j := cc_one T.pok T.cc hi hj
theorem prs_len (ls : List Ln) (ks : List Nat) : (prs ls ks).length = ks.length := List.length_map ..
theorem prs_snoc (ls : List Ln) (ks : List Nat) (k : Nat) : prs ls (ks ++ [k]) = prs ls ks ++ [ends (lnAt ls k)] := by
  unfold prs
  rw [List.map_append]
  rfl
/-- each line of a tree is a bridge -/
theorem Tre.bridge {n : Nat} {ls : List Ln} {ks : List Nat} (T : Tre n ls ks) {k : Nat} (hk : k ∈ ks) : ¬ Rch (prs ls (del ks k)) (ends (lnAt ls k)).1 (ends (lnAt ls k)).2 ∧ Tw.cc n (prs ls (del ks k)) = 2 := by
  have hd : ∀ j ∈ del ks k, j < ls.length := fun j hj => T.mem j (del_mem.mp hj).1
  have p1 : PsOk n (prs ls (del ks k)) := prs_ok T.ok hd
  have he := T.pok _ (prs_mem.mpr ⟨k, hk, rfl⟩)
  have p2 : PsOk n (prs ls (del ks k ++ [k])) := prs_ok T.ok fun j hj => by
    rcases List.mem_append.mp hj with h | h
    · exact hd j h
    · rw [List.mem_singleton.mp h]; exact T.mem k hk
  have e : Tw.cc n (prs ls (del ks k ++ [k])) = 1 := by
    rw [← T.cc]
    refine cc_mem p2 T.pok fun p => ⟨prs_sub (fun j hj => ?_) p, prs_sub (fun j hj => ?_) p⟩
    · rcases List.mem_append.mp hj with h | h
      · exact (del_mem.mp h).1
      · rw [List.mem_singleton.mp h]; exact hk
    · by_cases q : (j : Int) = k
      · exact List.mem_append_right _ (List.mem_singleton.mpr (by omega))
      · exact List.mem_append_left _ (del_mem.mpr ⟨hj, q⟩)
  have hl := del_len T.nd hk
  have ge := cc_ge _ _ (prs_len ls (del ks k)) p1
  have hT := T.len
  rw [prs_snoc] at e
  have := cc_snoc p1 he.1 he.2
  constructor
  · intro h
    have := this.1 h
    omega
  · by_cases h : Rch (prs ls (del ks k)) (ends (lnAt ls k)).1 (ends (lnAt ls k)).2
    · have := this.1 h; omega
    · have := this.2 h; omega
/-- exchange -/
theorem Tre.swap {n : Nat} {ls : List Ln} {ks : List Nat} (T : Tre n ls ks) {k c : Nat} (hk : k ∈ ks) (hc : c < ls.length) : Tw.cc n (prs ls (del ks k ++ [c])) = 1 ↔ ¬ Rch (prs ls (del ks k)) (ends (lnAt ls c)).1 (ends (lnAt ls c)).2 := by
  have hd : ∀ j ∈ del ks k, j < ls.length := fun j hj => T.mem j (del_mem.mp hj).1
  have p1 : PsOk n (prs ls (del ks k)) := prs_ok T.ok hd
  have he : (ends (lnAt ls c)).1 < n ∧ (ends (lnAt ls c)).2 < n := prs_ok T.ok (ks := [c]) (fun j hj => by rw [List.mem_singleton.mp hj]; exact hc) _ (prs_mem.mpr ⟨c, List.mem_singleton.mpr rfl, rfl⟩)
  have h2 := (T.bridge hk).2
  have := cc_snoc p1 he.1 he.2
  rw [prs_snoc]
  constructor
  · intro h q
    have := this.1 q
    omega
  · intro h
    have := this.2 h
    omega
end Tw

set_option Elab.async false
set_option linter.all false
set_option maxRecDepth 100000
set_option maxHeartbeats 1000000
namespace Tw
open PySem PySem.Spec PyProof.Rows L2
local macro_rules | `(tactic| walk_at "run") => `(tactic| simp (disch := (first | omega | (simp only [List.length_map, List.length_append, List.length_cons, List.length_nil, labD_len, rng_lng, cut_len, List.length_drop, List.length_take]; omega))) only [ite_self, at0, at1, at2, isi_tt, isi_tl, isi_ti, isi_ii, isi_it, isi_bb, Bool.not_true, Bool.not_false, Bool.true_or, Bool.false_or, Bool.true_and, Bool.false_and, Bool.and_true, Bool.or_false, Bool.and_false, Bool.or_true, labD_at, r_wipe0, r_wipe1, r_wipe2, r_wipe3, r_appE, appD_l, dAddL', dAddT', ite_or, ite_and, r_run0, r_run1, r_run2, r_run3, r_run4, r_and, r_or, r_if, r_seq, r_1, r_2, r_c, r_call, r_cons, r_nil, r_ret, r_set, r_snil, r_asg, r_on1, r_tup0, r_tup1, r_tup2, r_tup3, r_tup4, r_tup5, r_tup6, r_lst0, r_lst1, r_lst2, r_lst3, r_lst4, r_lst5, r_lst6, r_sl, r_pn, r_ps, r_nm, r_int, r_v0, r_vs, r_rtO,
  andO_b, orO_b, ifO_b, seqO_nx, seqO_rt, seqO_ite, outD_ite, o_bind, o_map, List.map_cons, List.map_nil, List.length_cons, List.length_nil, List.cons_append, List.nil_append, List.set_cons_zero, List.set_cons_succ, Nat.reduceAdd, Nat.reduceSub, Nat.zero_add,
  List.replicate_succ, List.replicate_zero, dAdd_i, dSub_i, dNeg_i, dNot_b, dLt_i, dLe_i, dGt_i, dGe_i, dGeA_i, dMul_i, dMul_j, dDiv_i, dMod_i, dEq_i, dNe_i, dEq_b, dLen_l, dLen_t, dTupOf_l, dTupOf_t, dMin2_i, dMax2_i, dInt1_b, dIx_l, dIx_t, dSl_l, dSl_t, r_gTu2, r_gTu3,
  Bool.false_eq_true, if_true, if_false, eq_self, List.length_map, List.length_replicate])
theorem for_rel {fi : It1} {tg : Tg} {body : Sx} {ρ : Rho} {o : Option Out} (e : sFor fi tg body ρ = o) {ds : List D} (hi : fi ρ = some ds) (P : Nat → Rho → Prop) (R : D → Prop) (h0 : P 0 ρ)
    (hs : ∀ i d ρ, ds[i]? = some d → P i ρ → ∃ ρ1, tg d ρ = some ρ1 ∧ ((∃ v, body ρ1 = some (.rt v) ∧ R v) ∨ ∃ ρ2, body ρ1 = some (.nx ρ2) ∧ P (i + 1) ρ2)) :
    (∃ v, o = some (.rt v) ∧ R v) ∨ ∃ ρ', o = some (.nx ρ') ∧ P ds.length ρ' := by
  rw [r_forL hi rfl] at e
  subst e
  clear hi
  have key : ∀ (r : List D) (n : Nat) (ρ : Rho), ds.drop n = r → n + r.length = ds.length → P n ρ → (∃ v, forGo tg body r ρ = some (.rt v) ∧ R v) ∨ ∃ ρ', forGo tg body r ρ = some (.nx ρ') ∧ P ds.length ρ' := by
    intro r
    induction r with
    | nil =>
      intro n ρ _ hl hp
      have : n = ds.length := by simpa using hl
      subst this
      exact .inr ⟨ρ, rfl, hp⟩
    | cons d r ih =>
      intro n ρ hd hl hp
      have hn : ds[n]? = some d := by
        have := congrArg (fun l => l[0]?) hd
        simpa using this
      obtain ⟨ρ1, h1, h2⟩ := hs n d ρ hn hp
      rcases h2 with ⟨v, h2, h3⟩ | ⟨ρ2, h2, h3⟩
      · refine .inl ⟨v, ?_, h3⟩
        rw [forGo, h1]
        dsimp only [Option.bind_some]
        rw [h2]
      · have hd' : ds.drop (n + 1) = r := by
          have := congrArg List.tail hd
          simpa using this
        have := ih (n + 1) ρ2 hd' (by rw [List.length_cons] at hl; omega) h3
        have e : forGo tg body (d :: r) ρ = forGo tg body r ρ2 := by
          rw [forGo, h1]
          dsimp only [Option.bind_some]
          rw [h2]
        rw [e]
        exact this
  exact key ds 0 ρ List.drop_zero (by omega) h0
theorem r_run5 {N : Nat} {g : Sx} {a b c d e : D} : runB N 5 g [a, b, c, d, e] = outD (g (some a :: some b :: some c :: some d :: some e :: List.replicate (N - 5) none)) := Eq.trans rfl rfl
theorem eqv_i (a b : Int) : PyData.eqv (.int a) (.int b) = decide (a = b) := by
  rw [PyData.eqv]
  rfl
theorem any_nat (x : Nat) : ∀ ks : List Nat, ((ks.map iN).any fun z => PyData.eqv z (iN x)) = decide (x ∈ ks)
  | [] => rfl
  | k :: r => by
    rw [List.map_cons, List.any_cons, any_nat x r, eqv_i]
    rw [← Bool.decide_or]
    refine decide_eq_decide.mpr ?_
    rw [List.mem_cons]
    constructor
    · rintro (h | h)
      · exact .inl (by omega)
      · exact .inr h
    · rintro (h | h)
      · exact .inl (by omega)
      · exact .inr h
theorem dIn_t (neg : Bool) (x : Nat) (ks : List Nat) : dIn neg (iN x) (dNs ks) = some (.bool (xor neg (decide (x ∈ ks)))) := by
  unfold dIn
  show (if _ then _ else _) = _
  rw [if_pos ⟨rfl, List.all_eq_true.mpr fun d hd => by obtain ⟨k, _, rfl⟩ := List.mem_map.mp hd; rfl⟩]
  exact congrArg (fun b => some (PyData.bool (xor neg b))) (any_nat x ks)
theorem dIn_l (neg : Bool) (x : Nat) (ks : List Nat) : dIn neg (iN x) (lNs ks) = some (.bool (xor neg (decide (x ∈ ks)))) := by
  unfold dIn
  show (if _ then _ else _) = _
  rw [if_pos ⟨rfl, (shp_lNs ks).ok (by omega)⟩]
  exact congrArg (fun b => some (PyData.bool (xor neg b))) (any_nat x ks)
theorem dIs_none (x : D) : dIs true x .none = some (.bool (!isNon x)) := by
  unfold dIs dIsN
  rw [if_pos (by rfl)]
  cases isNon x <;> rfl
/-! ### walks -/
abbrev ea (ls : List Ln) (k : Nat) : Nat := (ends (lnAt ls k)).1
abbrev eb (ls : List Ln) (k : Nat) : Nat := (ends (lnAt ls k)).2
def Wk (ls : List Ln) (ks : List Nat) : Nat → List Nat → Nat → Prop
  | a, [], b => a = b
  | a, k :: p, b => k ∈ ks ∧ ((a = ea ls k ∧ Wk ls ks (eb ls k) p b) ∨ (a = eb ls k ∧ Wk ls ks (ea ls k) p b))
section
variable {ls : List Ln} {ks js : List Nat}
theorem Wk.rch : ∀ {p : List Nat} {a b : Nat}, Wk ls ks a p b → (∀ k ∈ p, k ∈ js) → Rch (prs ls js) a b
  | [], a, b, h, _ => by
    have h : a = b := h
    rw [h]; exact .refl
  | k :: p, a, b, ⟨_, h⟩, hj => by
    have m : (ea ls k, eb ls k) ∈ prs ls js := prs_mem.mpr ⟨k, hj k List.mem_cons_self, rfl⟩
    rcases h with ⟨rfl, h⟩ | ⟨rfl, h⟩
    · exact (Rch.refl.fwd m).trans (h.rch fun x hx => hj x (List.mem_cons_of_mem _ hx))
    · exact (Rch.refl.bwd m).trans (h.rch fun x hx => hj x (List.mem_cons_of_mem _ hx))
theorem Wk.mem : ∀ {p : List Nat} {a b : Nat}, Wk ls ks a p b → ∀ k ∈ p, k ∈ ks
  | k :: p, a, b, ⟨hk, h⟩, x, hx => by
    rcases List.mem_cons.mp hx with rfl | hx
    · exact hk
    · rcases h with ⟨_, h⟩ | ⟨_, h⟩
      · exact h.mem x hx
      · exact h.mem x hx
theorem Wk.snoc : ∀ {p : List Nat} {a b c k : Nat}, Wk ls ks a p b → k ∈ ks → ((b = ea ls k ∧ c = eb ls k) ∨ (b = eb ls k ∧ c = ea ls k)) → Wk ls ks a (p ++ [k]) c
  | [], a, b, c, k, h, hk, he => by
    have h : a = b := h
    subst h
    refine ⟨hk, ?_⟩
    rcases he with ⟨h1, h2⟩ | ⟨h1, h2⟩
    · exact .inl ⟨h1, h2.symm⟩
    · exact .inr ⟨h1, h2.symm⟩
  | x :: p, a, b, c, k, ⟨hx, h⟩, hk, he => by
    refine ⟨hx, ?_⟩
    rcases h with ⟨h1, h⟩ | ⟨h1, h⟩
    · exact .inl ⟨h1, h.snoc hk he⟩
    · exact .inr ⟨h1, h.snoc hk he⟩
theorem Wk.rev : ∀ {p : List Nat} {a b : Nat}, Wk ls ks a p b → Wk ls ks b p.reverse a
  | [], a, b, h => by
    have h : a = b := h
    exact h.symm
  | k :: p, a, b, ⟨hk, h⟩ => by
    rw [List.reverse_cons]
    rcases h with ⟨h1, h⟩ | ⟨h1, h⟩
    · exact h.rev.snoc hk (.inr ⟨rfl, h1⟩)
    · exact h.rev.snoc hk (.inl ⟨rfl, h1⟩)
/-- where a walk first comes to a line -/
theorem Wk.split : ∀ {p : List Nat} {a b k : Nat}, Wk ls ks a p b → k ∈ p → ∃ q r, p = q ++ k :: r ∧ ((Wk ls ks a q (ea ls k) ∧ Wk ls ks (eb ls k) r b) ∨ (Wk ls ks a q (eb ls k) ∧ Wk ls ks (ea ls k) r b))
  | x :: p, a, b, k, ⟨hx, h⟩, hk => by
    by_cases e : k = x
    · subst e
      refine ⟨[], p, rfl, ?_⟩
      rcases h with ⟨h1, h⟩ | ⟨h1, h⟩
      · exact .inl ⟨h1, h⟩
      · exact .inr ⟨h1, h⟩
    · have hk' : k ∈ p := by
        rcases List.mem_cons.mp hk with h | h
        · exact absurd h e
        · exact h
      rcases h with ⟨h1, h⟩ | ⟨h1, h⟩
      · obtain ⟨q, r, rfl, h2⟩ := h.split hk'
        refine ⟨x :: q, r, rfl, ?_⟩
        rcases h2 with ⟨h2, h3⟩ | ⟨h2, h3⟩
        · exact .inl ⟨⟨hx, .inl ⟨h1, h2⟩⟩, h3⟩
        · exact .inr ⟨⟨hx, .inl ⟨h1, h2⟩⟩, h3⟩
      · obtain ⟨q, r, rfl, h2⟩ := h.split hk'
        refine ⟨x :: q, r, rfl, ?_⟩
        rcases h2 with ⟨h2, h3⟩ | ⟨h2, h3⟩
        · exact .inl ⟨⟨hx, .inr ⟨h1, h2⟩⟩, h3⟩
        · exact .inr ⟨⟨hx, .inr ⟨h1, h2⟩⟩, h3⟩
end
/-- no line can be gone around -/
def Acy (ls : List Ln) (ks : List Nat) : Prop := ∀ k ∈ ks, ¬ Rch (prs ls (del ks k)) (ea ls k) (eb ls k)
section
variable {ls : List Ln} {ks : List Nat}
/-- a walk that has no line twice goes over just the lines that part its ends -/
theorem Wk.parts (A : Acy ls ks) {p : List Nat} {a b : Nat} (h : Wk ls ks a p b) (nd : p.Nodup) {k : Nat} (hk : k ∈ ks) : k ∈ p ↔ ¬ Rch (prs ls (del ks k)) a b := by
  constructor
  · intro hp q
    obtain ⟨u, v, rfl, h2⟩ := h.split hp
    have nd := List.nodup_append.mp nd
    have nu : ∀ x ∈ u, x ∈ ks → x ∈ del ks k := fun x hx hm => del_mem.mpr ⟨hm, fun e => by
      have : x = k := by omega
      exact nd.2.2 x hx k List.mem_cons_self this⟩
    have nv : ∀ x ∈ v, x ∈ ks → x ∈ del ks k := fun x hx hm => del_mem.mpr ⟨hm, fun e => by
      have : x = k := by omega
      subst this
      exact (List.nodup_cons.mp nd.2.1).1 hx⟩
    rcases h2 with ⟨h2, h3⟩ | ⟨h2, h3⟩
    · have r1 := h2.rch fun x hx => nu x hx (h2.mem x hx)
      have r2 := h3.rch fun x hx => nv x hx (h3.mem x hx)
      exact A k hk ((r1.symm.trans q).trans r2.symm)
    · have r1 := h2.rch fun x hx => nu x hx (h2.mem x hx)
      have r2 := h3.rch fun x hx => nv x hx (h3.mem x hx)
      exact A k hk ((r2.trans q.symm).trans r1)
  · intro h1
    apply Classical.byContradiction
    intro h2
    exact h1 (h.rch fun x hx => del_mem.mpr ⟨h.mem x hx, fun e => h2 (by
      have : x = k := by omega
      rwa [← this])⟩)
/-- .. and is the only one -/
theorem Wk.uniq (A : Acy ls ks) (hne : ∀ k ∈ ks, ea ls k ≠ eb ls k) : ∀ {p q : List Nat} {a b : Nat}, Wk ls ks a p b → Wk ls ks a q b → p.Nodup → q.Nodup → p = q
  | [], [], _, _, _, _, _, _ => rfl
  | [], k :: q, a, b, hp, hq, _, nq => by
    have h : a = b := hp
    subst h
    have := (hq.parts A nq (hq.mem k List.mem_cons_self)).mp List.mem_cons_self
    exact absurd Rch.refl this
  | k :: p, [], a, b, hp, hq, np, _ => by
    have h : a = b := hq
    subst h
    have := (hp.parts A np (hp.mem k List.mem_cons_self)).mp List.mem_cons_self
    exact absurd Rch.refl this
  | k :: p, l :: q, a, b, hp, hq, np, nq => by
    have hk := hp.mem k List.mem_cons_self
    have hl := hq.mem l List.mem_cons_self
    by_cases e : k = l
    · subst e
      have np' := (List.nodup_cons.mp np).2
      have nq' := (List.nodup_cons.mp nq).2
      have hn := hne k hk
      obtain ⟨_, hp⟩ := hp
      obtain ⟨_, hq⟩ := hq
      rcases hp with ⟨h1, hp⟩ | ⟨h1, hp⟩ <;> rcases hq with ⟨h2, hq⟩ | ⟨h2, hq⟩
      · rw [Wk.uniq A hne hp hq np' nq']
      · exact absurd (h1.symm.trans h2) hn
      · exact absurd (h2.symm.trans h1) hn
      · rw [Wk.uniq A hne hp hq np' nq']
    · exfalso
      have lp : l ∈ k :: p := (hp.parts A np hl).mpr ((hq.parts A nq hl).mp List.mem_cons_self)
      have lp' : l ∈ p := by
        rcases List.mem_cons.mp lp with h | h
        · exact absurd h.symm e
        · exact h
      have np' := List.nodup_cons.mp np
      obtain ⟨_, hq⟩ := hq
      have inc : a = ea ls l ∨ a = eb ls l := by
        rcases hq with ⟨h, _⟩ | ⟨h, _⟩
        · exact .inl h
        · exact .inr h
      -- from the other end of k back to a, without k
      have back : ∀ v, Wk ls ks v p b → Rch (prs ls (del ks k)) v a := by
        intro v hv
        obtain ⟨u, w, rfl, h2⟩ := hv.split lp'
        have nu : ∀ x ∈ u, x ∈ ks → x ∈ del ks k := fun x hx hm => del_mem.mpr ⟨hm, fun e => by
          have : x = k := by omega
          subst this
          exact np'.1 (List.mem_append_left _ hx)⟩
        have ml : (ea ls l, eb ls l) ∈ prs ls (del ks k) := prs_mem.mpr ⟨l, del_mem.mpr ⟨hl, by omega⟩, rfl⟩
        rcases h2 with ⟨h2, _⟩ | ⟨h2, _⟩
        · have r1 := h2.rch fun x hx => nu x hx (h2.mem x hx)
          rcases inc with h | h
          · rw [h]; exact r1
          · rw [h]; exact r1.fwd ml
        · have r1 := h2.rch fun x hx => nu x hx (h2.mem x hx)
          rcases inc with h | h
          · rw [h]; exact r1.bwd ml
          · rw [h]; exact r1
      obtain ⟨_, hp⟩ := hp
      rcases hp with ⟨h1, hp⟩ | ⟨h1, hp⟩
      · have := back _ hp
        rw [h1] at this
        exact A k hk this.symm
      · have := back _ hp
        rw [h1] at this
        exact A k hk this
end
theorem nodup_le : ∀ {p ks : List Nat}, p.Nodup → (∀ x ∈ p, x ∈ ks) → p.length ≤ ks.length
  | [], _, _, _ => Nat.zero_le _
  | x :: p, ks, nd, h => by
    have nd := List.nodup_cons.mp nd
    have hx := h x List.mem_cons_self
    have := nodup_le (p := p) (ks := ks.erase x) nd.2 fun y hy => (List.mem_erase_of_ne (a := y) (b := x) fun e => nd.1 (by rw [← e]; exact hy)).mpr (h y (List.mem_cons_of_mem _ hy))
    rw [List.length_erase_of_mem hx] at this
    have := List.length_pos_of_mem hx
    rw [List.length_cons]
    omega
/-! ### way_from -/
def ms (n : Nat) (ls : List Ln) (ks : List Nat) (a : Nat) (c : Int) : Nat := ((List.range n).filter fun x => decide (lbP (prs ls (del ks c)) a = lbP (prs ls (del ks c)) x)).length
theorem filter_lt {l : List Nat} {p q : Nat → Bool} (h : ∀ i ∈ l, p i = true → q i = true) {x : Nat} (hx : x ∈ l) (hq : q x = true) (hp : p x = false) : (l.filter p).length < (l.filter q).length := by
  induction l with
  | nil => cases hx
  | cons a r ih =>
    have hle : ∀ r : List Nat, (∀ i ∈ r, p i = true → q i = true) → (r.filter p).length ≤ (r.filter q).length := by
      intro r
      induction r with
      | nil => intro _; exact Nat.le_refl _
      | cons b s ih =>
        intro h
        have ih := ih fun i hi => h i (List.mem_cons_of_mem _ hi)
        have hb := h b List.mem_cons_self
        rw [List.filter_cons, List.filter_cons]
        cases e : p b with
        | true => rw [hb e]; exact Nat.succ_le_succ ih
        | false =>
          cases q b
          · exact ih
          · exact Nat.le_succ_of_le ih
    have hr : ∀ i ∈ r, p i = true → q i = true := fun i hi => h i (List.mem_cons_of_mem _ hi)
    rw [List.filter_cons, List.filter_cons]
    rcases List.mem_cons.mp hx with rfl | hx
    · rw [hp, hq]
      exact Nat.lt_succ_of_le (hle r hr)
    · have ih := ih hr hx
      have ha := h a List.mem_cons_self
      cases e : p a with
      | true => rw [ha e]; exact Nat.succ_lt_succ ih
      | false =>
        cases q a
        · exact ih
        · exact Nat.lt_succ_of_lt ih
section
variable {n : Nat} {ls : List Ln} {ks : List Nat}
def Inc (ls : List Ln) (k a v : Nat) : Prop := (a = ea ls k ∧ v = eb ls k) ∨ (a = eb ls k ∧ v = ea ls k)
theorem Inc.symm {k a v : Nat} (h : Inc ls k a v) : Inc ls k v a := by
  rcases h with ⟨h1, h2⟩ | ⟨h1, h2⟩
  · exact .inr ⟨h2, h1⟩
  · exact .inl ⟨h2, h1⟩
theorem Inc.rch {k a v : Nat} (h : Inc ls k a v) {js : List Nat} (hk : k ∈ js) : Rch (prs ls js) a v := by
  have m : (ea ls k, eb ls k) ∈ prs ls js := prs_mem.mpr ⟨k, hk, rfl⟩
  rcases h with ⟨rfl, rfl⟩ | ⟨rfl, rfl⟩
  · exact Rch.refl.fwd m
  · exact Rch.refl.bwd m
theorem Acy.no (A : Acy ls ks) {k a v : Nat} (hk : k ∈ ks) (h : Inc ls k a v) : ¬ Rch (prs ls (del ks k)) v a := by
  rcases h with ⟨rfl, rfl⟩ | ⟨rfl, rfl⟩
  · exact fun q => A k hk q.symm
  · exact A k hk
/-- the step of a walk over some line -/
theorem rch_cases {ps : List (Nat × Nat)} {a x : Nat} {C : Nat → Prop} (h : Rch ps a x) (h0 : C a) (hs : ∀ j p y, p ∈ ps → Rch ps a j → C j → ((j = p.1 ∧ y = p.2) ∨ (j = p.2 ∧ y = p.1)) → C y) : C x := by
  induction h with
  | refl => exact h0
  | @fwd j k hj m ih => exact hs _ _ _ m hj ih (.inl ⟨rfl, rfl⟩)
  | @bwd j k hj m ih => exact hs _ _ _ m hj ih (.inr ⟨rfl, rfl⟩)
/-- beyond k, all is reached without the line by which one came -/
theorem beyond (A : Acy ls ks) {k came a v x : Nat} (hk : k ∈ ks) (hi : Inc ls k a v) (hc : came = a → True) (hca : ∃ u, Inc ls came a u) (h : Rch (prs ls (del ks k)) v x) : Rch (prs ls (del (del ks k) came)) v x := by
  refine (rch_cases (C := fun x => Rch (prs ls (del (del ks k) came)) v x) h .refl fun j p y hp hj hC he => ?_)
  obtain ⟨l, hl, rfl⟩ := prs_mem.mp hp
  by_cases e : l = came
  · subst e
    exfalso
    -- j or y is a
    obtain ⟨u, hu⟩ := hca
    have hja : Rch (prs ls (del ks k)) v a := by
      have hjy : Inc ls l j y := he
      have : j = a ∨ y = a := by
        rcases hu with ⟨h1, _⟩ | ⟨h1, _⟩ <;> rcases hjy with ⟨h2, h3⟩ | ⟨h2, h3⟩
        · exact .inl (h2.trans h1.symm)
        · exact .inr (h3.trans h1.symm)
        · exact .inr (h3.trans h1.symm)
        · exact .inl (h2.trans h1.symm)
      rcases this with h | h
      · rw [← h]; exact hj
      · rw [← h]; exact hj.trans (hjy.rch hl)
    exact A.no hk hi hja
  · have hm : l ∈ del (del ks k) came := del_mem.mpr ⟨hl, by omega⟩
    have hjy : Inc ls l j y := he
    exact hC.trans (hjy.rch hm)
/-- how one leaves a spot -/
theorem leave {c : Int} {a x : Nat} (h : Rch (prs ls (del ks c)) a x) : x = a ∨ ∃ k v, k ∈ ks ∧ (k : Int) ≠ c ∧ Inc ls k a v ∧ Rch (prs ls (del ks k)) v x := by
  refine rch_cases (C := fun x => x = a ∨ ∃ k v, k ∈ ks ∧ (k : Int) ≠ c ∧ Inc ls k a v ∧ Rch (prs ls (del ks k)) v x) h (.inl rfl) fun j p y hp hj hC he => ?_
  obtain ⟨l, hl, rfl⟩ := prs_mem.mp hp
  have hl' := del_mem.mp hl
  have hjy : Inc ls l j y := he
  rcases hC with rfl | ⟨k, v, hk, hkc, hi, hr⟩
  · exact .inr ⟨l, y, hl'.1, hl'.2, hjy, .refl⟩
  · by_cases e : l = k
    · subst e
      have : y = a ∨ y = v := by
        rcases hi with ⟨h1, h2⟩ | ⟨h1, h2⟩ <;> rcases hjy with ⟨h3, h4⟩ | ⟨h3, h4⟩
        · exact .inr (h4.trans h2.symm)
        · exact .inl (h4.trans h1.symm)
        · exact .inl (h4.trans h1.symm)
        · exact .inr (h4.trans h2.symm)
      rcases this with h | h
      · exact .inl h
      · exact .inr ⟨l, v, hk, hkc, hi, by rw [h]; exact .refl⟩
    · exact .inr ⟨k, v, hk, hkc, hi, hr.trans (hjy.rch (del_mem.mpr ⟨hl'.1, by omega⟩))⟩
theorem ms_lt (A : Acy ls ks) {k a v : Nat} {c : Int} (ha : a < n) (hk : k ∈ ks) (hkc : (k : Int) ≠ c) (hi : Inc ls k a v) (hc : c = -1 ∨ ∃ m u : Nat, c = m ∧ Inc ls m a u) : ms n ls ks v k < ms n ls ks a c := by
  refine filter_lt (x := a) (fun x hx h => ?_) (List.mem_range.mpr ha) (decide_eq_true rfl) ?_
  · rw [decide_eq_true_eq] at h ⊢
    rw [rch_iff] at h ⊢
    have hm : k ∈ del ks c := del_mem.mpr ⟨hk, hkc⟩
    refine (hi.rch hm).trans ?_
    rcases hc with rfl | ⟨m, u, rfl, hu⟩
    · exact h.mono (prs_sub fun j hj => del_mem.mpr ⟨(del_mem.mp hj).1, by omega⟩)
    · exact (beyond A hk hi (fun _ => trivial) ⟨u, hu⟩ h).mono (prs_sub fun j hj => del_mem.mpr ⟨(del_mem.mp (del_mem.mp hj).1).1, (del_mem.mp hj).2⟩)
  · rw [decide_eq_false_iff_not, rch_iff]
    exact A.no hk hi
theorem way_main (hok : ∀ l ∈ ls, LnOk n l) (hks : ∀ k ∈ ks, k < ls.length) (hn : n ≤ 7) (hl : ks.length ≤ 100) (A : Acy ls ks) : ∀ (f a b : Nat) (c : Int), a < n → b < n → (c = -1 ∨ ∃ m u : Nat, m ∈ ks ∧ c = m ∧ Inc ls m a u) → ms n ls ks a c ≤ f →
    (∃ p, H_way_from f [dGr n ls, dNs ks, .int a, .int b, .int c] = some (dNs p) ∧ Wk ls ks a p b ∧ p.Nodup ∧ ∀ k ∈ p, (k : Int) ≠ c) ∨ (H_way_from f [dGr n ls, dNs ks, .int a, .int b, .int c] = some .none ∧ ¬ Rch (prs ls (del ks c)) a b) := by
  intro f
  induction f with
  | zero =>
    intro a b c ha hb hc h0
    exfalso
    have : 0 < ms n ls ks a c := by
      unfold ms
      exact List.length_pos_of_mem (List.mem_filter.mpr ⟨List.mem_range.mpr ha, decide_eq_true rfl⟩)
    omega
  | succ f ih =>
    intro a b c ha hb hc h0
    show (∃ p, runB 10 5 (b_way_from (H_way_from f)) _ = some (dNs p) ∧ _) ∨ (runB 10 5 (b_way_from (H_way_from f)) _ = some .none ∧ _)
    unfold b_way_from
    rw [r_run5]
    walk_at "run"
    by_cases eab : a = b
    · subst eab
      rw [decide_eq_true rfl]
      exact .inl ⟨[], rfl, rfl, List.nodup_nil, fun _ h => by cases h⟩
    rw [decide_eq_false (by omega : ¬ (a : Int) = b)]
    walk_at "run"
    generalize e : sFor _ _ _ _ = o
    have key := for_rel e (ds := ks.map iN) rfl (fun i ρ => ∃ x5 x6 x7 x8 x9, ρ = [some (dGr n ls), some (dNs ks), some (.int a), some (.int b), some (.int c), x5, x6, x7, x8, x9] ∧ ∀ j k v, j < i → ks[j]? = some k → (k : Int) ≠ c → Inc ls k a v → ¬ Rch (prs ls (del ks k)) v b)
      (fun d => ∃ p, d = dNs p ∧ Wk ls ks a p b ∧ p.Nodup ∧ ∀ k ∈ p, (k : Int) ≠ c) ⟨_, _, _, _, _, rfl, fun _ _ _ h => absurd h (by omega)⟩ fun i d ρ hd hp => by
        obtain ⟨x5, x6, x7, x8, x9, rfl, hno⟩ := hp
        rw [List.getElem?_map] at hd
        cases hd' : ks[i]? with
        | none => rw [hd'] at hd; cases hd
        | some k =>
        rw [hd'] at hd
        obtain rfl : iN k = d := Option.some.inj hd
        have hk : k ∈ ks := List.mem_of_getElem? hd'
        have hkl := hks k hk
        have hln := hok _ (ln_at hkl).2
        have hed := ends_d hln
        refine ⟨_, rfl, ?_⟩
        walk_at "run"
        rw [(ln_at hkl).1]
        walk_at "run"
        rw [cut2, hed]
        have e1 : dIn false (.int a) (dPn (ends (lnAt ls k))) = some (.bool (decide (a ∈ [ea ls k, eb ls k]))) := by
          have := dIn_t false a [ea ls k, eb ls k]
          rw [Bool.false_xor] at this
          exact this
        rw [e1]
        walk_at "run"
        have skip : ¬ ((k : Int) ≠ c ∧ ∃ v, Inc ls k a v) ∨ (∀ v, (k : Int) ≠ c → Inc ls k a v → ¬ Rch (prs ls (del ks k)) v b) → ∀ j k v, j < i + 1 → ks[j]? = some k → (k : Int) ≠ c → Inc ls k a v → ¬ Rch (prs ls (del ks k)) v b := by
          intro q j k2 v hj hkj hc2 hi2
          by_cases ej : j = i
          · subst ej
            rw [hd'] at hkj
            cases hkj
            rcases q with q | q
            · exact absurd ⟨hc2, v, hi2⟩ q
            · exact q v hc2 hi2
          · exact hno j k2 v (by omega) hkj hc2 hi2
        by_cases hin : a ∈ [ea ls k, eb ls k]
        case neg =>
          rw [decide_eq_false hin, Bool.and_false, if_neg Bool.false_ne_true]
          refine .inr ⟨_, rfl, _, _, _, _, _, rfl, skip (.inl ?_)⟩
          rintro ⟨_, v, h | h⟩
          · exact hin (by rw [h.1]; simp)
          · exact hin (by rw [h.1]; simp)
        by_cases hkc : (k : Int) = c
        · rw [decide_eq_true hkc]
          refine .inr ⟨_, rfl, _, _, _, _, _, rfl, skip (.inl fun h => h.1 hkc)⟩
        rw [decide_eq_true hin, decide_eq_false hkc]
        obtain ⟨v, hiv, hv⟩ : ∃ v : Nat, Inc ls k a v ∧ (lnAt ls k).a + (lnAt ls k).b - (a : Int) = v := by
          have h1 := hln.1
          have h2 := hln.2.1
          have ea' : ((ea ls k : Nat) : Int) = (lnAt ls k).a := Int.toNat_of_nonneg h1
          have eb' : ((eb ls k : Nat) : Int) = (lnAt ls k).b := Int.toNat_of_nonneg (by omega)
          simp only [List.mem_cons, List.not_mem_nil, or_false] at hin
          rcases hin with h | h
          · exact ⟨eb ls k, .inl ⟨h, rfl⟩, by omega⟩
          · exact ⟨ea ls k, .inr ⟨h, rfl⟩, by omega⟩
        have hvn : v < n := by
          have h1 := hln.1
          have h2 := hln.2.1
          have h3 := hln.2.2.1
          have : v = (lnAt ls k).a.toNat ∨ v = (lnAt ls k).b.toNat := by
            rcases hiv with ⟨_, h⟩ | ⟨_, h⟩
            · exact .inr h
            · exact .inl h
          omega
        have hlt : ms n ls ks v k < ms n ls ks a c := ms_lt A ha hk hkc hiv (hc.imp id fun ⟨m, u, _, h2, h3⟩ => ⟨m, u, h2, h3⟩)
        have IH := ih v b k hvn hb (.inr ⟨k, a, hk, rfl, hiv.symm⟩) (by omega)
        rw [hv]
        rcases IH with ⟨p, h1, h2, h3, h4⟩ | ⟨h1, h2⟩
        · refine .inl ⟨dNs (k :: p), ?_, k :: p, rfl, ?_, ?_, ?_⟩
          · have hp : p.length ≤ 100 := by
              have : p.length ≤ ks.length := nodup_le h3 fun x hx => h2.mem x hx
              omega
            rw [h1]
            walk_at "run"
            rw [dIs_none]
            walk_at "run"
            show (if (!isNon (PyData.tuple _)) = true then _ else _) = _
            rw [if_pos (by rfl)]
            rfl
          · refine ⟨hk, ?_⟩
            rcases hiv with ⟨q1, q2⟩ | ⟨q1, q2⟩
            · exact .inl ⟨q1, by rw [← q2]; exact h2⟩
            · exact .inr ⟨q1, by rw [← q2]; exact h2⟩
          · exact List.nodup_cons.mpr ⟨fun hm => h4 k hm rfl, h3⟩
          · intro x hx
            rcases List.mem_cons.mp hx with rfl | hx
            · exact hkc
            · intro hxc
              rcases hc with rfl | ⟨m, u, hm, rfl, hu⟩
              · omega
              · have : x = m := by omega
                subst this
                -- the walk beyond k goes over the line by which one came
                obtain ⟨q, r, rfl, hs⟩ := h2.split hx
                have nu : ∀ y ∈ q, y ∈ ks → y ∈ del ks k := fun y hy hm => del_mem.mpr ⟨hm, h4 y (List.mem_append_left _ hy)⟩
                have mx : x ∈ del ks k := del_mem.mpr ⟨hm, h4 x hx⟩
                have hux : Rch (prs ls (del ks k)) v a := by
                  have r0 := hu.rch mx
                  rcases hs with ⟨hs, _⟩ | ⟨hs, _⟩
                  · have r1 := hs.rch fun y hy => nu y hy (hs.mem y hy)
                    rcases hu with ⟨z1, z2⟩ | ⟨z1, z2⟩
                    · rw [z1]; exact r1
                    · rw [← z2] at r1; exact r1.trans r0.symm
                  · have r1 := hs.rch fun y hy => nu y hy (hs.mem y hy)
                    rcases hu with ⟨z1, z2⟩ | ⟨z1, z2⟩
                    · rw [← z2] at r1; exact r1.trans r0.symm
                    · rw [z1]; exact r1
                exact A.no hk hiv hux
        · rw [h1]
          walk_at "run"
          rw [dIs_none]
          walk_at "run"
          refine .inr ⟨_, rfl, _, _, _, _, _, rfl, skip (.inr fun v' _ hv' => ?_)⟩
          have : v' = v := by
            rcases hiv with ⟨z1, z2⟩ | ⟨z1, z2⟩ <;> rcases hv' with ⟨z3, z4⟩ | ⟨z3, z4⟩
            · exact z4.trans z2.symm
            · exfalso
              have h1 := hln.1
              have h2 := hln.2.1
              have : ea ls k = eb ls k := z1.symm.trans z3
              have : (lnAt ls k).a.toNat = (lnAt ls k).b.toNat := this
              omega
            · exfalso
              have h1 := hln.1
              have h2 := hln.2.1
              have : ea ls k = eb ls k := z3.symm.trans z1
              have : (lnAt ls k).a.toNat = (lnAt ls k).b.toNat := this
              omega
            · exact z4.trans z2.symm
          rw [this]
          exact h2
    rcases key with ⟨v, rfl, p, rfl, h1, h2, h3⟩ | ⟨ρ', rfl, x5, x6, x7, x8, x9, rfl, hno⟩
    · exact .inl ⟨p, rfl, h1, h2, h3⟩
    · refine .inr ⟨rfl, fun hr => ?_⟩
      rcases leave hr with h | ⟨k, v, hk, hkc, hi, h⟩
      · exact eab h.symm
      · obtain ⟨j, hj⟩ := List.mem_iff_getElem?.mp hk
        rw [List.length_map] at hno
        exact hno j k v (List.getElem?_eq_some_iff.mp hj).1 hj hkc hi h
end
end Tw

set_option Elab.async false
set_option linter.all false
set_option maxRecDepth 100000
set_option maxHeartbeats 1000000
namespace Tw
open PySem PySem.Spec PyProof.Rows L2
local macro_rules | `(tactic| walk_at "run") => `(tactic| simp (disch := (first | omega | (simp only [List.length_map, List.length_append, List.length_cons, List.length_nil, labD_len, rng_lng, cut_len, List.length_drop, List.length_take]; omega))) only [ite_self, at0, at1, at2, isi_tt, isi_tl, isi_ti, isi_ii, isi_it, isi_bb, Bool.not_true, Bool.not_false, Bool.true_or, Bool.false_or, Bool.true_and, Bool.false_and, Bool.and_true, Bool.or_false, Bool.and_false, Bool.or_true, labD_at, r_wipe0, r_wipe1, r_wipe2, r_wipe3, r_appE, appD_l, dAddL', dAddT', ite_or, ite_and, r_run0, r_run1, r_run2, r_run3, r_run4, r_and, r_or, r_if, r_seq, r_1, r_2, r_c, r_call, r_cons, r_nil, r_ret, r_set, r_snil, r_asg, r_on1, r_tup0, r_tup1, r_tup2, r_tup3, r_tup4, r_tup5, r_tup6, r_lst0, r_lst1, r_lst2, r_lst3, r_lst4, r_lst5, r_lst6, r_sl, r_pn, r_ps, r_nm, r_int, r_v0, r_vs, r_rtO,
  andO_b, orO_b, ifO_b, seqO_nx, seqO_rt, seqO_ite, outD_ite, o_bind, o_map, List.map_cons, List.map_nil, List.length_cons, List.length_nil, List.cons_append, List.nil_append, List.set_cons_zero, List.set_cons_succ, Nat.reduceAdd, Nat.reduceSub, Nat.zero_add,
  List.replicate_succ, List.replicate_zero, dAdd_i, dSub_i, dNeg_i, dNot_b, dLt_i, dLe_i, dGt_i, dGe_i, dGeA_i, dMul_i, dMul_j, dDiv_i, dMod_i, dEq_i, dNe_i, dEq_b, dLen_l, dLen_t, dTupOf_l, dTupOf_t, dMin2_i, dMax2_i, dInt1_b, dIx_l, dIx_t, dSl_l, dSl_t, r_gTu2, r_gTu3,
  Bool.false_eq_true, if_true, if_false, eq_self, List.length_map, List.length_replicate])
/-! ### what the tests say of rows of lines -/
def Ris (ks : List Nat) : Prop := ks.Pairwise (· < ·)
theorem ris_iff : ∀ {ks : List Nat}, risB ltN ks = true ↔ Ris ks
  | [] => ⟨fun _ => .nil, fun _ => rfl⟩
  | [x] => ⟨fun _ => List.pairwise_singleton _ _, fun _ => rfl⟩
  | x :: y :: r => by
    have ih := ris_iff (ks := y :: r)
    have e : risB ltN (x :: y :: r) = (ltN x y && risB ltN (y :: r)) := rfl
    rw [e, Bool.and_eq_true, ih]
    unfold ltN Ris
    rw [decide_eq_true_eq, List.pairwise_cons (a := x)]
    constructor
    · rintro ⟨h1, h2⟩
      refine ⟨fun z hz => ?_, h2⟩
      rcases List.mem_cons.mp hz with rfl | hz
      · exact h1
      · exact Nat.lt_trans h1 ((List.pairwise_cons.mp h2).1 z hz)
    · rintro ⟨h1, h2⟩
      exact ⟨h1 y List.mem_cons_self, h2⟩
theorem Ris.nd {ks : List Nat} (h : Ris ks) : ks.Nodup := h.imp fun h => Nat.ne_of_lt h
theorem ris_eq {l m : List Nat} (h1 : Ris l) (h2 : Ris m) (h : ∀ k, k ∈ l ↔ k ∈ m) : l = m := by
  have hi : ∀ l : List Nat, Ris l → (l.map fun (k : Nat) => (k : Int)).Pairwise (· < ·) := fun l h => List.Pairwise.map _ (fun a b h => by omega) h
  have := rising_eq (hi l h1) (hi m h2) fun k => by
    rw [List.mem_map, List.mem_map]
    exact ⟨fun ⟨j, hj, e⟩ => ⟨j, (h j).mp hj, e⟩, fun ⟨j, hj, e⟩ => ⟨j, (h j).mpr hj, e⟩⟩
  have e := congrArg (List.map Int.toNat) this
  rw [List.map_map, List.map_map] at e
  have e2 : (Int.toNat ∘ fun (k : Nat) => (k : Int)) = id := by funext k; rfl
  rwa [e2, List.map_id, List.map_id] at e
def isT (n : Nat) (ls : List Ln) (ks : List Nat) : Bool := decide (ks.length + 1 = n) && risB ltN ks && decide (cc n (prs ls ks) = 1)
theorem all_num {ks : List Nat} {m : Nat} (h : ∀ k ∈ ks, k < m) : (ks.map iN).all (fun d => isNum d 0 ((m : Int) - 1)) = true := by
  rw [List.all_eq_true]
  intro d hd
  obtain ⟨k, hk, rfl⟩ := List.mem_map.mp hd
  have := h k hk
  show (decide ((0 : Int) ≤ k) && decide ((k : Int) ≤ m - 1)) = true
  rw [Bool.and_eq_true, decide_eq_true_eq, decide_eq_true_eq]
  omega
theorem tree_val {n : Nat} {ls : List Ln} (hn : 1 ≤ n ∧ n ≤ 7) (hls : ls.length ≤ 1000) (h : ∀ l ∈ ls, LnOk n l) {ks : List Nat} (hk : ∀ k ∈ ks, k < ls.length) (hl : ks.length ≤ 100) :
    G_is_tree [dNs ks, dGr n ls] = some (.bool (isT n ls ks)) ∧ G_l_is_tree [dNs ks, dGr n ls] = some (.bool (isT n ls ks)) := by
  unfold G_is_tree b_is_tree G_l_is_tree b_l_is_tree isT
  walk_at "run"
  by_cases c1 : ks.length + 1 = n
  case neg =>
    rw [decide_eq_false c1, decide_eq_false (by omega : ¬ (ks.length : Int) = n - 1)]
    exact ⟨rfl, rfl⟩
  rw [decide_eq_true c1, decide_eq_true (by omega : (ks.length : Int) = n - 1)]
  walk_at "run"
  have c2 := all_num hk
  rw [comp_typed' (ks.map iN) id (fun d => .bool (isNum d 0 ((ls.length : Int) - 1))) ?_ ?_ fun d hd' => ?_]
  rw [comp_typed (ks.map iN) id (fun d => !isNum d 0 ((ls.length : Int) - 1)) id ?_ ?_ fun d hd' => ?_]
  · walk_at "run"
    rw [dAll_map, dNe_nil fun d hd' => by
      rw [List.map_id] at hd'
      obtain ⟨k, hk, rfl⟩ := List.mem_map.mp (List.mem_filter.mp hd').1
      exact (shp_int _).mono (by omega)]
    walk_at "run"
    rw [emp_all, c2]
    walk_at "run"
    rw [rises_run (fun (k : Nat) => PyData.int k) ltN ks (fun a _ b _ => dLt_n a b) (by omega)]
    generalize hX : xComp (iR2 _ _) _ _ _ _ _ = X
    obtain ⟨L, rfl, e2⟩ := falls_run (as := ks) (lt := ltN) hX (by omega) (iR2_i (j := (ks.length : Int)) rfl (by walk_at "run") (by omega) (by omega)) fun i p h1 h2 => by
      walk_at "run"
      have q1 : atI (ks.map fun (k : Nat) => PyData.int k) (1 + (i : Int) - 1) = some (.int p.1) := at_n (by omega) (by rw [show (1 + (i : Int) - 1).toNat = i by omega, List.getElem?_map, h1]; rfl)
      have q2 : atI (ks.map fun (k : Nat) => PyData.int k) (1 + (i : Int)) = some (.int p.2) := at_n (by omega) (by rw [show (1 + (i : Int)).toNat = i + 1 by omega, List.getElem?_map, h2]; rfl)
      rw [q1, q2]
      walk_at "run"
      rw [← dGeA_n]
      exact ⟨rfl, trivial⟩
    clear hX
    simp only [o_bind, e2]
    walk_at "run"
    cases c3 : risB ltN ks with
    | false =>
      walk_at "run"
      exact ⟨trivial, trivial⟩
    | true =>
      walk_at "run"
      rw [joined_run hn.2 h hk (by omega) (.inr rfl)]
      rw [comp_typed' ks (fun (k : Nat) => PyData.int k) (fun k => dPn (ends (lnAt ls k))) ?_ ?_ fun k hk' => ?_]
      · walk_at "run"
        rw [l_joined' hn.2 h hk, grp_len]
        walk_at "run"
        rw [grp_len]
        walk_at "run"
        have : decide (((reps n (lbP (prs ls ks))).length : Int) = 1) = decide (cc n (prs ls ks) = 1) := by
          unfold cc
          exact decide_eq_decide.mpr (by omega)
        rw [this]
        exact ⟨rfl, rfl⟩
      · rfl
      · omega
      · refine ⟨_, rfl, ?_⟩
        walk_at "run"
        rw [(ln_at (hk k hk')).1]
        walk_at "run"
        rw [cut2, ends_d (h _ (ln_at (hk k hk')).2)]
  · show some (ks.map iN) = _
    rw [List.map_id]
  · rw [List.length_map]; omega
  · refine ⟨_, rfl, ?_, fun _ => rfl⟩
    obtain ⟨k, _, rfl⟩ := List.mem_map.mp hd'
    walk_at "run"
    rw [id_eq, num_run' _ _ _ rfl]
    walk_at "run"
  · show some (ks.map iN) = _
    rw [List.map_id]
  · rw [List.length_map]; omega
  · refine ⟨_, rfl, ?_⟩
    obtain ⟨k, _, rfl⟩ := List.mem_map.mp hd'
    walk_at "run"
    rw [id_eq, num_run _ _ _ rfl]
theorem isT_iff {n : Nat} {ls : List Ln} {ks : List Nat} (h : ∀ l ∈ ls, LnOk n l) (hk : ∀ k ∈ ks, k < ls.length) : isT n ls ks = true ↔ Tre n ls ks ∧ Ris ks := by
  unfold isT
  rw [Bool.and_eq_true, Bool.and_eq_true, decide_eq_true_eq, decide_eq_true_eq, ris_iff]
  exact ⟨fun ⟨⟨h1, h2⟩, h3⟩ => ⟨⟨h, hk, h2.nd, h1, h3⟩, h2⟩, fun ⟨T, r⟩ => ⟨⟨T.len, r⟩, T.cc⟩⟩
/-- a row sorted -/
theorem sort_row (l : List Nat) : ∃ m : List Nat, dSorted (lNs l) = some (lNs m) ∧ m.Perm l ∧ (l.Nodup → Ris m) := by
  obtain ⟨m, h1, h2, h3⟩ := sort_nats l
  refine ⟨m, h1, h3, fun nd => ?_⟩
  have hs := sortI_sorted (l.map fun (k : Nat) => (k : Int))
  rw [h2, List.pairwise_map] at hs
  have nm : m.Nodup := h3.nodup_iff.mpr nd
  exact (hs.and nm).imp fun {a b} h => by
    have := h.1
    have := h.2
    omega
theorem sorted_t (l : List Nat) : dSortedA (dNs l) = dSorted (lNs l) := by
  have e : l.map iN = (l.map fun (k : Nat) => (k : Int)).map PyData.int := by rw [List.map_map]; rfl
  show (intsOf (l.map iN)).map _ = match intsOf (l.map iN) with
    | some ns => some (PyData.list ((sortI ns).map .int))
    | none => (pairsOf (l.map iN)).map fun ps => .list ((sortP ps).map dPr)
  rw [e, intsOf_map]
  rfl
theorem exch_run (ks : List Nat) (out c : Nat) (hl : ks.length ≤ 1000) : ∃ m : List Nat, G_l_exchanged [dNs ks, iN out, iN c] = some (dNs m) ∧ m.Perm (del ks out ++ [c]) ∧ (ks.Nodup → c ∉ ks → Ris m) := by
  obtain ⟨m, h1, h2, h3⟩ := sort_row (del ks out ++ [c])
  refine ⟨m, ?_, h2, fun nd hc => h3 ?_⟩
  · unfold G_l_exchanged b_l_exchanged
    walk_at "run"
    rw [comp_typed ks iN (fun k => !decide ((k : Int) = out)) iN ?_ ?_ fun k hk => ?_]
    · have ed : List.filter (fun (k : Nat) => !decide ((k : Int) = (out : Int))) ks = del ks out := rfl
      rw [ed]
      have hd : (del ks out).length ≤ 1000 := Nat.le_trans (List.length_filter_le _ _) hl
      walk_at "run"
      have e : (del ks out).map iN ++ [iN c] = (del ks out ++ [c]).map iN := by
        rw [List.map_append]; rfl
      rw [e, h1]
      walk_at "run"
    · rfl
    · omega
    · refine ⟨_, rfl, ?_, fun _ => rfl⟩
      walk_at "run"
  · rw [List.nodup_append]
    refine ⟨nd.filter _, by simp, fun x hx y hy => ?_⟩
    rw [List.mem_singleton.mp hy]
    intro e
    subst e
    exact hc (del_mem.mp hx).1
/-! ways and swaps of a tree -/
section
variable {n : Nat} {ls : List Ln} {ks : List Nat}
theorem Tre.acy (T : Tre n ls ks) : Acy ls ks := fun k hk => (T.bridge hk).1
theorem Tre.ne (T : Tre n ls ks) : ∀ k ∈ ks, ea ls k ≠ eb ls k := fun k hk => by
  have h := T.ok _ (ln_at (T.mem k hk)).2
  have h1 := h.1
  have h2 := h.2.1
  show (lnAt ls k).a.toNat ≠ (lnAt ls k).b.toNat
  omega
theorem ms_le (n : Nat) (ls : List Ln) (ks : List Nat) (a : Nat) (c : Int) : ms n ls ks a c ≤ n := by
  have := List.length_filter_le (fun x => decide (lbP (prs ls (del ks c)) a = lbP (prs ls (del ks c)) x)) (List.range n)
  rwa [List.length_range] at this
theorem way_run (T : Tre n ls ks) (hn : n ≤ 7) {a b : Nat} (ha : a < n) (hb : b < n) : ∃ p, G_way [dGr n ls, dNs ks, .int a, .int b] = some (dNs p) ∧ Wk ls ks a p b ∧ p.Nodup := by
  have hl := T.len
  have e : del ks (-1) = ks := del_no fun k _ => by omega
  rcases way_main T.ok T.mem hn (by omega) T.acy 40 a b (-1) ha hb (.inl rfl) (Nat.le_trans (ms_le ..) (by omega)) with ⟨p, h1, h2, h3, _⟩ | ⟨_, h2⟩
  · refine ⟨p, ?_, h2, h3⟩
    unfold G_way b_way
    walk_at "run"
    have h1 : G_way_from [dGr n ls, dNs ks, .int a, .int b, .int (-1)] = some (dNs p) := h1
    rw [h1]
    walk_at "run"
  · rw [e] at h2
    exact absurd (T.join ha hb) h2
/-- the lines that part two spots -/
def cut (ls : List Ln) (ks : List Nat) (a b : Nat) : List Nat := ks.filter fun k => !decide (lbP (prs ls (del ks k)) a = lbP (prs ls (del ks k)) b)
theorem cut_mem {a b k : Nat} : k ∈ cut ls ks a b ↔ k ∈ ks ∧ ¬ Rch (prs ls (del ks k)) a b := by
  unfold cut
  rw [List.mem_filter, Bool.not_eq_true', decide_eq_false_iff_not, rch_iff]
theorem sort_way (T : Tre n ls ks) (hr : Ris ks) {a b : Nat} {p : List Nat} (h : Wk ls ks a p b) (nd : p.Nodup) : dSortedA (dNs p) = some (lNs (cut ls ks a b)) := by
  obtain ⟨m, h1, h2, h3⟩ := sort_row p
  have hc : Ris (cut ls ks a b) := hr.filter _
  have e : m = cut ls ks a b := ris_eq (h3 nd) hc fun k => ?_
  rw [sorted_t, h1, e]
  rw [h2.mem_iff]
  constructor
  · intro hk
    exact cut_mem.mpr ⟨h.mem k hk, (h.parts T.acy nd (h.mem k hk)).mp hk⟩
  · intro hk
    have := cut_mem.mp hk
    exact (h.parts T.acy nd this.1).mpr this.2
theorem ends_lt (h : ∀ l ∈ ls, LnOk n l) {c : Nat} (hc : c < ls.length) : ea ls c < n ∧ eb ls c < n := prs_ok h (ks := [c]) (fun j hj => by rw [List.mem_singleton.mp hj]; exact hc) _ (prs_mem.mpr ⟨c, List.mem_singleton.mpr rfl, rfl⟩)
theorem ends_i (h : ∀ l ∈ ls, LnOk n l) {c : Nat} (hc : c < ls.length) : (lnAt ls c).a = (ea ls c : Nat) ∧ (lnAt ls c).b = (eb ls c : Nat) := by
  have q := h _ (ln_at hc).2
  have h1 := q.1
  have h2 := q.2.1
  exact ⟨(Int.toNat_of_nonneg h1).symm, (Int.toNat_of_nonneg (by omega)).symm⟩
theorem swaps_run (T : Tre n ls ks) (hr : Ris ks) (hn : n ≤ 7) {c : Nat} (hc : c < ls.length) : G_swaps [dGr n ls, dNs ks, .int c] = some (dNs (cut ls ks (ea ls c) (eb ls c))) := by
  have he := ends_lt T.ok hc
  obtain ⟨p, h1, h2, h3⟩ := way_run T hn he.1 he.2
  have hi := ends_i T.ok hc
  unfold G_swaps b_swaps
  walk_at "run"
  rw [(ln_at hc).1]
  walk_at "run"
  rw [hi.1, hi.2, h1]
  walk_at "run"
  rw [sort_way T hr h2 h3]
  walk_at "run"
end
end Tw

set_option Elab.async false
set_option linter.all false
set_option maxRecDepth 100000
set_option maxHeartbeats 1000000
namespace Tw
open PySem PySem.Spec PyProof.Rows L2
local macro_rules | `(tactic| walk_at "run") => `(tactic| simp (disch := (first | omega | (simp only [List.length_map, List.length_append, List.length_cons, List.length_nil, labD_len, rng_lng, cut_len, List.length_drop, List.length_take]; omega))) only [ite_self, at0, at1, at2, isi_tt, isi_tl, isi_ti, isi_ii, isi_it, isi_bb, Bool.not_true, Bool.not_false, Bool.true_or, Bool.false_or, Bool.true_and, Bool.false_and, Bool.and_true, Bool.or_false, Bool.and_false, Bool.or_true, labD_at, r_wipe0, r_wipe1, r_wipe2, r_wipe3, r_appE, appD_l, dAddL', dAddT', ite_or, ite_and, r_run0, r_run1, r_run2, r_run3, r_run4, r_and, r_or, r_if, r_seq, r_1, r_2, r_c, r_call, r_cons, r_nil, r_ret, r_set, r_snil, r_asg, r_on1, r_tup0, r_tup1, r_tup2, r_tup3, r_tup4, r_tup5, r_tup6, r_lst0, r_lst1, r_lst2, r_lst3, r_lst4, r_lst5, r_lst6, r_sl, r_pn, r_ps, r_nm, r_int, r_v0, r_vs, r_rtO,
  andO_b, orO_b, ifO_b, seqO_nx, seqO_rt, seqO_ite, outD_ite, o_bind, o_map, List.map_cons, List.map_nil, List.length_cons, List.length_nil, List.cons_append, List.nil_append, List.set_cons_zero, List.set_cons_succ, Nat.reduceAdd, Nat.reduceSub, Nat.zero_add,
  List.replicate_succ, List.replicate_zero, dAdd_i, dSub_i, dNeg_i, dNot_b, dLt_i, dLe_i, dGt_i, dGe_i, dGeA_i, dMul_i, dMul_j, dDiv_i, dMod_i, dEq_i, dNe_i, dEq_b, dLen_l, dLen_t, dTupOf_l, dTupOf_t, dMin2_i, dMax2_i, dInt1_b, dIx_l, dIx_t, dSl_l, dSl_t, r_gTu2, r_gTu3,
  Bool.false_eq_true, if_true, if_false, eq_self, List.length_map, List.length_replicate])
theorem dNe_self {d : D} {k : Nat} (h : Shp k d) (hk : k ≤ 60) : dNe d d = some (.bool false) := by
  unfold dNe
  have := h.ok (by omega)
  rw [if_pos ⟨this, this⟩, SeqAt.eqv_refl d h.1]
  rfl
theorem dEq_self {d : D} {k : Nat} (h : Shp k d) (hk : k ≤ 60) : dEq d d = some (.bool true) := by
  unfold dEq
  have := h.ok (by omega)
  rw [if_pos ⟨this, this⟩, SeqAt.eqv_refl d h.1]
theorem dEq_nil {ds : List D} (h : ∀ d ∈ ds, Shp 60 d) : dEq (.list ds) (.list []) = some (.bool ds.isEmpty) := by
  unfold dEq
  rw [if_pos ⟨(shp_list h).ok (by omega), rfl⟩, PyData.eqv]
  cases ds with
  | nil => rw [PyData.eqvAll]; rfl
  | cons d r => rw [PyData.eqvAll]; rfl
theorem dBackT_n (p : List Nat) : dBackT (dNs p) = some (dNs p.reverse) := by
  show some (PyData.tuple (List.reverse _)) = _
  rw [← List.map_reverse]
theorem lenSet_run {p : List Nat} (nd : p.Nodup) (hl : p.length ≤ 1000) : dLenSet (dNs p) = some (.int p.length) := by
  have e : p.map iN = (p.map fun (k : Nat) => (k : Int)).map PyData.int := by rw [List.map_map]; rfl
  unfold dLenSet
  show (intsOf (p.map iN)).bind _ = _
  rw [e, intsOf_map, o_bind, if_pos (by rw [List.length_map]; exact hl)]
  have n1 : (p.map fun (k : Nat) => (k : Int)).Nodup := List.Pairwise.map _ (fun a b h => by
    intro q
    exact h (by omega)) nd
  have := ((List.perm_ext_iff_of_nodup ((sortU_sorted (p.map fun (k : Nat) => (k : Int))).imp fun h => Int.ne_of_lt h) n1).mpr fun k => sortU_mem).length_eq
  rw [this, List.length_map]
theorem walks_run {n : Nat} {ls : List Ln} {ks : List Nat} (hok : ∀ l ∈ ls, LnOk n l) (hls : ls.length ≤ 1000) (hks : ∀ k ∈ ks, k < ls.length) {a b : Nat} {p : List Nat} (h : Wk ls ks a p b) (nd : p.Nodup) (hl : p.length ≤ 1000) :
    G_l_walks [dGr n ls, dNs ks, .int a, .int b, dNs p] = some (.bool true) := by
  unfold G_l_walks b_l_walks
  rw [r_run5]
  walk_at "run"
  generalize e : sFor _ _ _ _ = o
  obtain ⟨ρ', rfl, hq⟩ := for_all e (ds := p.map iN) rfl (fun i ρ => ∃ (x : Nat) (x6 : Option D), ρ = [some (dGr n ls), some (dNs ks), some (.int a), some (.int b), some (dNs p), some (.int x), x6] ∧ Wk ls ks x (p.drop i) b)
    ⟨a, none, rfl, by rw [List.drop_zero]; exact h⟩ fun i d ρ hd hq => by
      obtain ⟨x, x6, rfl, hw⟩ := hq
      rw [List.getElem?_map] at hd
      cases hd' : p[i]? with
      | none => rw [hd'] at hd; cases hd
      | some k =>
      rw [hd'] at hd
      obtain rfl : iN k = d := Option.some.inj hd
      have hil := (List.getElem?_eq_some_iff.mp hd').1
      have hdr : p.drop i = k :: p.drop (i + 1) := by
        rw [List.drop_eq_getElem_cons hil]
        congr 1
        exact (List.getElem?_eq_some_iff.mp hd').2
      rw [hdr] at hw
      obtain ⟨hk, hw⟩ := hw
      have hkl := hks k hk
      have hln := hok _ (ln_at hkl).2
      have hi := ends_i hok hkl
      refine ⟨_, rfl, ?_⟩
      walk_at "run"
      rw [num_run' _ _ _ rfl]
      walk_at "run"
      have e1 : isNum (iN k) 0 ((ls.length : Int) - 1) = true := by
        show (decide ((0 : Int) ≤ k) && decide ((k : Int) ≤ ls.length - 1)) = true
        rw [Bool.and_eq_true, decide_eq_true_eq, decide_eq_true_eq]
        omega
      rw [e1, dIn_t, decide_eq_true hk, (ln_at hkl).1]
      walk_at "run"
      rw [cut2, ends_d hln]
      have hin : x ∈ [ea ls k, eb ls k] := by
        rcases hw with ⟨h, _⟩ | ⟨h, _⟩
        · rw [h]; simp
        · rw [h]; simp
      have e2 : dIn true (.int x) (dPn (ends (lnAt ls k))) = some (.bool false) := by
        have := dIn_t true x [ea ls k, eb ls k]
        rw [decide_eq_true hin] at this
        exact this
      rw [e2]
      walk_at "run"
      rw [(ln_at hkl).1]
      walk_at "run"
      rw [hi.1, hi.2]
      rcases hw with ⟨h1, hw⟩ | ⟨h1, hw⟩
      · refine ⟨_, rfl, eb ls k, some (iN k), ?_, hw⟩
        rw [show ((ea ls k : Nat) : Int) + (eb ls k : Nat) - (x : Nat) = (eb ls k : Nat) by omega]
      · refine ⟨_, rfl, ea ls k, some (iN k), ?_, hw⟩
        rw [show ((ea ls k : Nat) : Int) + (eb ls k : Nat) - (x : Nat) = (ea ls k : Nat) by omega]
  obtain ⟨x, x6, rfl, hw⟩ := hq
  rw [List.length_map, List.drop_length] at hw
  obtain rfl : x = b := hw
  walk_at "run"
  rw [lenSet_run nd hl]
  walk_at "run"
  simp
end Tw

set_option Elab.async false
set_option linter.all false
set_option maxRecDepth 100000
set_option maxHeartbeats 1000000
namespace Tw
open PySem PySem.Spec PyProof.Rows L2
local macro_rules | `(tactic| walk_at "run") => `(tactic| simp (disch := (first | omega | (simp only [List.length_map, List.length_append, List.length_cons, List.length_nil, labD_len, rng_lng, cut_len, List.length_drop, List.length_take]; omega))) only [ite_self, at0, at1, at2, isi_tt, isi_tl, isi_ti, isi_ii, isi_it, isi_bb, Bool.not_true, Bool.not_false, Bool.true_or, Bool.false_or, Bool.true_and, Bool.false_and, Bool.and_true, Bool.or_false, Bool.and_false, Bool.or_true, labD_at, r_wipe0, r_wipe1, r_wipe2, r_wipe3, r_appE, appD_l, dAddL', dAddT', ite_or, ite_and, r_run0, r_run1, r_run2, r_run3, r_run4, r_and, r_or, r_if, r_seq, r_1, r_2, r_c, r_call, r_cons, r_nil, r_ret, r_set, r_snil, r_asg, r_on1, r_tup0, r_tup1, r_tup2, r_tup3, r_tup4, r_tup5, r_tup6, r_lst0, r_lst1, r_lst2, r_lst3, r_lst4, r_lst5, r_lst6, r_sl, r_pn, r_ps, r_nm, r_int, r_v0, r_vs, r_rtO,
  andO_b, orO_b, ifO_b, seqO_nx, seqO_rt, seqO_ite, outD_ite, o_bind, o_map, List.map_cons, List.map_nil, List.length_cons, List.length_nil, List.cons_append, List.nil_append, List.set_cons_zero, List.set_cons_succ, Nat.reduceAdd, Nat.reduceSub, Nat.zero_add,
  List.replicate_succ, List.replicate_zero, dAdd_i, dSub_i, dNeg_i, dNot_b, dLt_i, dLe_i, dGt_i, dGe_i, dGeA_i, dMul_i, dMul_j, dDiv_i, dMod_i, dEq_i, dNe_i, dEq_b, dLen_l, dLen_t, dTupOf_l, dTupOf_t, dMin2_i, dMax2_i, dInt1_b, dIx_l, dIx_t, dSl_l, dSl_t, r_gTu2, r_gTu3,
  Bool.false_eq_true, if_true, if_false, eq_self, List.length_map, List.length_replicate])
/-! ### the law's tree joins what can be joined -/
theorem insert_perm {l : List Nat} {i q : Nat} (h : l.Perm (List.range i)) : (l.take q ++ [i] ++ l.drop q).Perm (List.range (i + 1)) := by
  rw [List.range_succ, List.append_assoc]
  have h1 : (l.take q ++ ([i] ++ l.drop q)).Perm ([i] ++ l.drop q ++ l.take q) := List.perm_append_comm
  have h2 : ([i] ++ l.drop q ++ l.take q).Perm ([i] ++ (l.take q ++ l.drop q)) := by
    rw [List.append_assoc]
    exact List.perm_append_comm.append_left [i]
  have h3 : ([i] ++ (l.take q ++ l.drop q)).Perm (l ++ [i]) := by
    rw [List.take_append_drop]
    exact List.perm_append_comm
  exact (h1.trans (h2.trans h3)).trans (h.append_right [i])
/-- as many lines as they join, and nothing left to be joined -/
structure Fst (n : Nat) (ls : List Ln) (ks : List Nat) : Prop where
  mem : ∀ k ∈ ks, k < ls.length
  ris : Ris ks
  cnt : cc n (prs ls ks) + ks.length = n
  all : ∀ k, k < ls.length → Rch (prs ls ks) (ea ls k) (eb ls k)
theorem cc_add {n : Nat} {ls : List Ln} {f : List Nat} {x : Nat} (h : ∀ l ∈ ls, LnOk n l) (hf : ∀ k ∈ f, k < ls.length) (hx : x < ls.length) : (Rch (prs ls f) (ea ls x) (eb ls x) → cc n (prs ls (f ++ [x])) = cc n (prs ls f)) ∧ (¬ Rch (prs ls f) (ea ls x) (eb ls x) → cc n (prs ls (f ++ [x])) + 1 = cc n (prs ls f)) := by
  rw [prs_snoc]
  have he := ends_lt h hx
  exact cc_snoc (prs_ok h hf) he.1 he.2
theorem tree_run2 {n : Nat} {ls : List Ln} (hn : n ≤ 7) (hl : ls.length ≤ 30) (h : ∀ l ∈ ls, LnOk n l) (m : Int) : ∃ ks : List Nat, G_l_tree [dGr n ls, .int m] = some (dNs ks) ∧ ks.length ≤ 30 ∧ Fst n ls ks := by
  unfold G_l_tree b_l_tree
  walk_at "run"
  generalize e : sFor _ _ _ _ = o
  obtain ⟨ρ', rfl, hq⟩ := for_all e (iR1_i (n := ls.length) (by walk_at "run") (by omega)) (fun i ρ => ∃ l x3 x5, ρ = [some (dGr n ls), some (.int m), some (.list (l.map iN)), x3, none, x5, none, none] ∧ l.Perm (List.range i))
    ⟨[], _, _, rfl, .refl _⟩ fun i d ρ hd hp => by
      obtain ⟨l, x3, x5, rfl, hl'⟩ := hp
      have hll : l.length = i := by rw [hl'.length_eq, List.length_range]
      obtain ⟨hi, rfl⟩ := rng_ix hd
      refine ⟨_, rfl, ?_⟩
      rw [Int.zero_add]
      walk_at "run"
      rw [drawn_run]
      have q0 : 0 ≤ drawn m i % ((i : Int) + 1) := Int.emod_nonneg _ (by omega)
      have q1 : drawn m i % ((i : Int) + 1) < (i : Int) + 1 := Int.emod_lt_of_pos _ (by omega)
      obtain ⟨q, hq⟩ : ∃ q : Nat, drawn m i % ((i : Int) + 1) = q := ⟨(drawn m i % ((i : Int) + 1)).toNat, by omega⟩
      walk_at "run"
      rw [hq]
      rw [cutD_to, cutD_from]
      walk_at "run"
      exact ⟨_, rfl, l.take q ++ [i] ++ l.drop q, _, _, by rw [← insert_run], insert_perm hl'⟩
  obtain ⟨l, x3, x5, rfl, hlp⟩ := hq
  clear e
  rw [rng_lng] at hlp
  have hll : l.length = ls.length := by rw [hlp.length_eq, List.length_range]
  have hk : ∀ x ∈ l, x < ls.length := fun x hx => List.mem_range.mp (hlp.mem_iff.mp hx)
  have hnd : l.Nodup := hlp.nodup_iff.mpr List.nodup_range
  walk_at "run"
  generalize e : sFor _ _ _ _ = o
  obtain ⟨ρ', rfl, hq⟩ := for_all e (ds := l.map iN) rfl (fun i ρ => ∃ f x3 x6, ρ = [some (dGr n ls), some (.int m), some (.list (l.map iN)), x3, some (.list (f.map iN)), x5, x6, none] ∧ f.length ≤ i ∧ (∀ x ∈ f, x ∈ l.take i) ∧ f.Nodup ∧ cc n (prs ls f) + f.length = n ∧ ∀ x ∈ l.take i, Rch (prs ls f) (ea ls x) (eb ls x))
    ⟨[], _, _, rfl, Nat.le_refl _, (fun _ h => by cases h), List.nodup_nil, cc_nil n, fun x hx => by cases hx⟩ fun i d ρ hd hp => by
      obtain ⟨f, x3, x6, rfl, hf, hft, hfn, hfc, hfa⟩ := hp
      have hfk : ∀ x ∈ f, x < ls.length := fun x hx => hk x (List.mem_of_mem_take (hft x hx))
      rw [List.getElem?_map] at hd
      cases hd' : l[i]? with
      | none => rw [hd'] at hd; cases hd
      | some x =>
        rw [hd'] at hd
        obtain rfl : iN x = d := Option.some.inj hd
        have hxl : x < ls.length := hk x (List.mem_of_getElem? hd')
        have hil : i < l.length := (List.getElem?_eq_some_iff.mp hd').1
        have htk : l.take (i + 1) = l.take i ++ [x] := by rw [List.take_succ, hd']; rfl
        have hxt : x ∉ l.take i := fun hx => by
          have hnd' := hnd
          rw [← List.take_append_drop (i + 1) l, htk] at hnd'
          have := (List.nodup_append.mp (List.nodup_append.mp hnd').1).2.2 x hx x (List.mem_singleton.mpr rfl)
          exact this rfl
        refine ⟨_, rfl, ?_⟩
        walk_at "run"
        generalize hX : xComp (iSeq (xVar 4)) _ _ _ _ _ = X
        obtain rfl := prs_comp (g := 0) h hfk (by omega) hX rfl fun k hk => by
          walk_at "run"
          rw [(ln_at hk).1]
          walk_at "run"
        walk_at "run"
        rw [l_joined' hn h hfk]
        walk_at "run"
        rw [grp_len]
        walk_at "run"
        generalize hY : xComp (iSeq _) _ _ _ _ _ = Y
        have hfx : ∀ y ∈ f ++ [x], y < ls.length := fun y hy => by
          rcases List.mem_append.mp hy with hy | hy
          · exact hfk y hy
          · rw [List.mem_singleton.mp hy]; exact hxl
        obtain rfl := prs_comp (g := 0) h hfx (by rw [List.length_append]; show f.length + 1 ≤ 1000; omega) hY (iSeq_l (by walk_at "run"; rw [List.map_append]; rfl)) fun k hk => by
          walk_at "run"
          rw [(ln_at hk).1]
          walk_at "run"
        walk_at "run"
        rw [l_joined' hn h hfx]
        walk_at "run"
        rw [grp_len]
        walk_at "run"
        have hc : decide (((reps n (lbP (prs ls (f ++ [x])))).length : Int) < ((reps n (lbP (prs ls f))).length : Int)) = decide (cc n (prs ls (f ++ [x])) < cc n (prs ls f)) := decide_eq_decide.mpr (by unfold cc; omega)
        rw [hc]
        have ca := cc_add h hfk hxl
        by_cases hr : Rch (prs ls f) (ea ls x) (eb ls x)
        · rw [decide_eq_false (by have := ca.1 hr; omega)]
          walk_at "run"
          refine ⟨_, rfl, f, _, _, rfl, by omega, fun y hy => by rw [htk]; exact List.mem_append_left _ (hft y hy), hfn, hfc, fun y hy => ?_⟩
          rw [htk] at hy
          rcases List.mem_append.mp hy with hy | hy
          · exact hfa y hy
          · rw [List.mem_singleton.mp hy]; exact hr
        · rw [decide_eq_true (by have := ca.2 hr; omega)]
          walk_at "run"
          have hsub : ∀ y ∈ f, y ∈ f ++ [x] := fun y hy => List.mem_append_left _ hy
          refine ⟨_, rfl, f ++ [x], _, _, by rw [List.map_append]; rfl, by rw [List.length_append]; exact Nat.succ_le_succ hf, fun y hy => ?_, ?_, ?_, fun y hy => ?_⟩
          · rw [htk]
            rcases List.mem_append.mp hy with hy | hy
            · exact List.mem_append_left _ (hft y hy)
            · exact List.mem_append_right _ hy
          · rw [List.nodup_append]
            exact ⟨hfn, by simp, fun y hy z hz e => hxt (by rw [List.mem_singleton.mp hz] at e; rw [← e]; exact hft y hy)⟩
          · have := ca.2 hr
            rw [List.length_append]
            show _ + (f.length + 1) = n
            omega
          · rw [htk] at hy
            rcases List.mem_append.mp hy with hy | hy
            · exact (hfa y hy).mono (prs_sub hsub)
            · rw [List.mem_singleton.mp hy]
              exact Inc.rch (.inl ⟨rfl, rfl⟩) (List.mem_append_right _ (List.mem_singleton.mpr rfl))
  obtain ⟨f, x3, x6, rfl, hf, hft, hfn, hfc, hfa⟩ := hq
  rw [List.length_map] at hf hft hfa
  rw [List.take_length] at hft hfa
  obtain ⟨ks, h1, h2, h3⟩ := sort_row f
  have hfk : ∀ x ∈ f, x < ls.length := fun x hx => hk x (hft x hx)
  have hkk : ∀ x ∈ ks, x < ls.length := fun x hx => hfk x (h2.mem_iff.mp hx)
  walk_at "run"
  rw [h1]
  refine ⟨ks, rfl, by rw [h2.length_eq]; omega, hkk, h3 hfn, ?_, fun k hk' => ?_⟩
  · have : cc n (prs ls ks) = cc n (prs ls f) := cc_mem (prs_ok h hkk) (prs_ok h hfk) fun p => ⟨prs_sub (fun j hj => h2.mem_iff.mp hj) p, prs_sub (fun j hj => h2.mem_iff.mpr hj) p⟩
    have := h2.length_eq
    omega
  · exact (hfa k (hlp.mem_iff.mpr (List.mem_range.mpr hk'))).mono (prs_sub fun j hj => h2.mem_iff.mpr hj)
/-- where there is a tree, each such row is one -/
theorem Fst.tre {n : Nat} {ls : List Ln} {ks js : List Nat} (F : Fst n ls ks) (T : Tre n ls js) : Tre n ls ks := by
  have hn : 1 ≤ n := by have := T.len; omega
  have hc : cc n (prs ls ks) = 1 := by
    refine one_cc hn (prs_ok T.ok F.mem) fun i j hi hj => ?_
    have := T.join hi hj
    refine rch_cases (C := fun x => Rch (prs ls ks) i x) this .refl fun j p y hp _ hC he => ?_
    obtain ⟨l, hl, rfl⟩ := prs_mem.mp hp
    have r := F.all l (T.mem l hl)
    rcases he with ⟨h1, h2⟩ | ⟨h1, h2⟩
    · rw [h1] at hC; rw [h2]; exact hC.trans r
    · rw [h1] at hC; rw [h2]; exact hC.trans r.symm
  have := F.cnt
  exact ⟨T.ok, F.mem, F.ris.nd, by omega, hc⟩
end Tw

set_option Elab.async false
set_option linter.all false
set_option maxRecDepth 100000
set_option maxHeartbeats 1000000
namespace Tw
open PySem PySem.Spec PyProof.Rows L2
local macro_rules | `(tactic| walk_at "run") => `(tactic| simp (disch := (first | omega | (simp only [List.length_map, List.length_append, List.length_cons, List.length_nil, labD_len, rng_lng, cut_len, List.length_drop, List.length_take]; omega))) only [ite_self, at0, at1, at2, isi_tt, isi_tl, isi_ti, isi_ii, isi_it, isi_bb, Bool.not_true, Bool.not_false, Bool.true_or, Bool.false_or, Bool.true_and, Bool.false_and, Bool.and_true, Bool.or_false, Bool.and_false, Bool.or_true, labD_at, r_wipe0, r_wipe1, r_wipe2, r_wipe3, r_appE, appD_l, dAddL', dAddT', ite_or, ite_and, r_run0, r_run1, r_run2, r_run3, r_run4, r_and, r_or, r_if, r_seq, r_1, r_2, r_c, r_call, r_cons, r_nil, r_ret, r_set, r_snil, r_asg, r_on1, r_tup0, r_tup1, r_tup2, r_tup3, r_tup4, r_tup5, r_tup6, r_lst0, r_lst1, r_lst2, r_lst3, r_lst4, r_lst5, r_lst6, r_sl, r_pn, r_ps, r_nm, r_int, r_v0, r_vs, r_rtO,
  andO_b, orO_b, ifO_b, seqO_nx, seqO_rt, seqO_ite, outD_ite, o_bind, o_map, List.map_cons, List.map_nil, List.length_cons, List.length_nil, List.cons_append, List.nil_append, List.set_cons_zero, List.set_cons_succ, Nat.reduceAdd, Nat.reduceSub, Nat.zero_add,
  List.replicate_succ, List.replicate_zero, dAdd_i, dSub_i, dNeg_i, dNot_b, dLt_i, dLe_i, dGt_i, dGe_i, dGeA_i, dMul_i, dMul_j, dDiv_i, dMod_i, dEq_i, dNe_i, dEq_b, dLen_l, dLen_t, dTupOf_l, dTupOf_t, dMin2_i, dMax2_i, dInt1_b, dIx_l, dIx_t, dSl_l, dSl_t, r_gTu2, r_gTu3,
  Bool.false_eq_true, if_true, if_false, eq_self, List.length_map, List.length_replicate])
/-! ### steps -/
def srt (l : List Nat) : List Nat := (sortI (l.map fun (k : Nat) => (k : Int))).map Int.toNat
theorem srt_run (l : List Nat) : dSorted (lNs l) = some (lNs (srt l)) ∧ (srt l).Perm l ∧ (l.Nodup → Ris (srt l)) := by
  obtain ⟨m, h1, h2, h3⟩ := sort_nats l
  have e : srt l = m := by
    unfold srt
    rw [h2, List.map_map]
    have e2 : (Int.toNat ∘ fun (k : Nat) => (k : Int)) = id := by funext k; rfl
    rw [e2, List.map_id]
  rw [e]
  refine ⟨h1, h3, fun nd => ?_⟩
  obtain ⟨m', q1, q2, q3⟩ := sort_row l
  have : some (lNs m) = some (lNs m') := h1.symm.trans q1
  have hs := sortI_sorted (l.map fun (k : Nat) => (k : Int))
  rw [h2, List.pairwise_map] at hs
  have nm : m.Nodup := h3.nodup_iff.mpr nd
  exact (hs.and nm).imp fun {a b} h => by
    have := h.1
    have := h.2
    omega
def exl (ks : List Nat) (out c : Nat) : List Nat := srt (del ks out ++ [c])
theorem exl_run (ks : List Nat) (out c : Nat) (hl : ks.length ≤ 1000) : G_l_exchanged [dNs ks, iN out, iN c] = some (dNs (exl ks out c)) := by
  have h1 := (srt_run (del ks out ++ [c])).1
  unfold G_l_exchanged b_l_exchanged
  walk_at "run"
  rw [comp_typed ks iN (fun k => !decide ((k : Int) = out)) iN ?_ ?_ fun k hk => ?_]
  · have ed : List.filter (fun (k : Nat) => !decide ((k : Int) = (out : Int))) ks = del ks out := rfl
    rw [ed]
    have hd : (del ks out).length ≤ 1000 := Nat.le_trans (List.length_filter_le _ _) hl
    walk_at "run"
    have e : (del ks out).map iN ++ [iN c] = (del ks out ++ [c]).map iN := by
      rw [List.map_append]; rfl
    rw [e, h1]
    walk_at "run"
    rfl
  · rfl
  · omega
  · refine ⟨_, rfl, ?_, fun _ => rfl⟩
    walk_at "run"
section
variable {n : Nat} {ls : List Ln}
theorem exl_mem {ks : List Nat} {out c j : Nat} : j ∈ exl ks out c ↔ (j ∈ ks ∧ j ≠ out) ∨ j = c := by
  unfold exl
  rw [(srt_run _).2.1.mem_iff, List.mem_append, del_mem, List.mem_singleton]
  constructor
  · rintro (⟨h1, h2⟩ | h)
    · exact .inl ⟨h1, by omega⟩
    · exact .inr h
  · rintro (⟨h1, h2⟩ | h)
    · exact .inl ⟨h1, by omega⟩
    · exact .inr h
theorem exl_nd {ks : List Nat} {out c : Nat} (nd : ks.Nodup) (hc : c ∉ ks) : (del ks out ++ [c]).Nodup := by
  rw [List.nodup_append]
  refine ⟨nd.filter _, by simp, fun x hx y hy => ?_⟩
  rw [List.mem_singleton.mp hy]
  intro e
  subst e
  exact hc (del_mem.mp hx).1
/-- an exchange over a cut keeps a tree -/
theorem Tre.exl {ks : List Nat} (T : Tre n ls ks) {out c : Nat} (ho : out ∈ ks) (hc : c < ls.length) (hcn : c ∉ ks) (hp : ¬ Rch (prs ls (del ks out)) (ea ls c) (eb ls c)) : Tre n ls (exl ks out c) ∧ Ris (Tw.exl ks out c) := by
  have hs := srt_run (del ks out ++ [c])
  have nd := exl_nd (out := out) T.nd hcn
  have hr : Ris (Tw.exl ks out c) := hs.2.2 nd
  have hm : ∀ j ∈ Tw.exl ks out c, j < ls.length := fun j hj => by
    rcases exl_mem.mp hj with h | h
    · exact T.mem j h.1
    · rw [h]; exact hc
  have hl : (Tw.exl ks out c).length = ks.length := by
    have := del_len T.nd ho
    unfold Tw.exl
    rw [hs.2.1.length_eq, List.length_append]
    exact this
  refine ⟨⟨T.ok, hm, hr.nd, by have := T.len; omega, ?_⟩, hr⟩
  rw [← (T.swap ho hc).mpr hp]
  exact cc_mem (prs_ok T.ok hm) (prs_ok T.ok fun j hj => hm j (hs.2.1.mem_iff.mpr hj)) fun p => ⟨prs_sub (fun j hj => hs.2.1.mem_iff.mp hj) p, prs_sub (fun j hj => hs.2.1.mem_iff.mpr hj) p⟩
/-- exchanges in a row, each time a tree -/
def Chain (n : Nat) (ls : List Ln) : List Nat → List (Nat × Nat) → List Nat → Prop
  | h, [], h' => h = h'
  | h, p :: r, h' => p.1 ∈ h ∧ p.2 ∉ h ∧ (Tre n ls (exl h p.1 p.2) ∧ Ris (exl h p.1 p.2)) ∧ Chain n ls (exl h p.1 p.2) r h'
theorem Chain.snoc : ∀ {f : List (Nat × Nat)} {h h' : List Nat} {p : Nat × Nat}, Chain n ls h f h' → p.1 ∈ h' → p.2 ∉ h' → Tre n ls (Tw.exl h' p.1 p.2) ∧ Ris (Tw.exl h' p.1 p.2) → Chain n ls h (f ++ [p]) (Tw.exl h' p.1 p.2)
  | [], h, h', p, c, a, b, t => by
    have c : h = h' := c
    subst c
    exact ⟨a, b, t, rfl⟩
  | q :: r, h, h', p, ⟨c1, c2, c3, c4⟩, a, b, t => ⟨c1, c2, c3, c4.snoc a b t⟩
/-- some line of the cut is not in another tree -/
theorem cut_out {ks js : List Nat} (T : Tre n ls ks) (J : Tre n ls js) (hn : n ≤ 7) {c : Nat} (hc : c ∈ js) (hcn : c ∉ ks) : ∃ o r, (cut ls ks (ea ls c) (eb ls c)).filter (fun k => !decide (k ∈ js)) = o :: r := by
  cases e : (cut ls ks (ea ls c) (eb ls c)).filter (fun k => !decide (k ∈ js)) with
  | cons o r => exact ⟨o, r, rfl⟩
  | nil =>
    exfalso
    have hcl := J.mem c hc
    have he := ends_lt T.ok hcl
    obtain ⟨p, _, h2, h3⟩ := way_run T hn he.1 he.2
    have hp : ∀ k ∈ p, k ∈ del js c := fun k hk => by
      have hkm := h2.mem k hk
      have hcut := cut_mem.mpr ⟨hkm, (h2.parts T.acy h3 hkm).mp hk⟩
      have := List.filter_eq_nil_iff.mp e k hcut
      have hj : k ∈ js := by simpa using this
      exact del_mem.mpr ⟨hj, fun q => hcn (by
        have : k = c := by omega
        rwa [← this])⟩
    exact J.acy c hc (h2.rch hp)
def less (ks js : List Nat) : Nat := (ks.filter fun k => !decide (k ∈ js)).length
theorem less_exl {ks js : List Nat} {o c : Nat} (nd : ks.Nodup) (ho : o ∈ ks) (hoj : o ∉ js) (hc : c ∈ js) : less (exl ks o c) js + 1 = less ks js := by
  unfold less exl
  rw [((srt_run (del ks o ++ [c])).2.1.filter _).length_eq, List.filter_append, List.length_append]
  have h1 : ([c].filter fun k => !decide (k ∈ js)) = [] := by simp [hc]
  rw [h1]
  unfold del
  rw [List.filter_filter]
  refine filter_one nd ho (fun i _ => ?_) (by simp [hoj])
  congr 2
  exact decide_eq_decide.mpr (by omega)
theorem steps_run {ks js : List Nat} (T : Tre n ls ks) (hr : Ris ks) (J : Tre n ls js) (jr : Ris js) (hn : n ≤ 7) : ∃ f, G_steps [dGr n ls, dNs ks, dNs js] = some (.tuple (f.map dPn)) ∧ Chain n ls ks f js ∧ f.length = less ks js := by
  have hjl := J.len
  have htl := T.len
  unfold G_steps b_steps
  walk_at "run"
  generalize e : sFor _ _ _ _ = o
  obtain ⟨ρ', rfl, hq⟩ := for_all e (ds := js.map iN) rfl (fun i ρ => ∃ h f x5 x6, ρ = [some (dGr n ls), some (dNs ks), some (dNs js), some (dNs h), some (.list (f.map dPn)), x5, x6, none] ∧ Tre n ls h ∧ Ris h ∧ (∀ x ∈ js.take i, x ∈ h) ∧ Chain n ls ks f h ∧ f.length + less h js = less ks js ∧ f.length ≤ i)
    ⟨ks, [], _, _, rfl, T, hr, (fun _ h => by cases h), rfl, Nat.zero_add _, Nat.le_refl _⟩ fun i d ρ hd hq => by
      obtain ⟨h, f, x5, x6, rfl, H, Hr, hsub, hch, hlen, hfi⟩ := hq
      have hhl := H.len
      rw [List.getElem?_map] at hd
      cases hd' : js[i]? with
      | none => rw [hd'] at hd; cases hd
      | some c =>
      rw [hd'] at hd
      obtain rfl : iN c = d := Option.some.inj hd
      have hc := List.mem_of_getElem? hd'
      have hil := (List.getElem?_eq_some_iff.mp hd').1
      have hcl := J.mem c hc
      have htk : js.take (i + 1) = js.take i ++ [c] := by rw [List.take_succ, hd']; rfl
      refine ⟨_, rfl, ?_⟩
      walk_at "run"
      rw [dIn_t, Bool.true_xor]
      by_cases hin : c ∈ h
      · rw [decide_eq_true hin]
        walk_at "run"
        refine ⟨_, rfl, h, f, _, _, rfl, H, Hr, fun x hx => ?_, hch, hlen, by omega⟩
        rw [htk] at hx
        rcases List.mem_append.mp hx with hx | hx
        · exact hsub x hx
        · rw [List.mem_singleton.mp hx]; exact hin
      · rw [decide_eq_false hin]
        walk_at "run"
        rw [comp_typed (cut ls h (ea ls c) (eb ls c)) iN (fun k => !decide (k ∈ js)) iN ?_ ?_ fun k hk => ?_]
        · obtain ⟨o, r, hcut⟩ := cut_out H J hn hc hin
          have ho : o ∈ (cut ls h (ea ls c) (eb ls c)).filter (fun k => !decide (k ∈ js)) := by rw [hcut]; exact List.mem_cons_self
          have ho := List.mem_filter.mp ho
          have hoj : o ∉ js := by simpa using ho.2
          have hom := cut_mem.mp ho.1
          rw [hcut]
          walk_at "run"
          rw [comp_typed h iN (fun k => !decide ((k : Int) = o)) iN ?_ ?_ fun k hk => ?_]
          · have ed : List.filter (fun (k : Nat) => !decide ((k : Int) = (o : Int))) h = del h o := rfl
            rw [ed]
            have hdl : (del h o).length ≤ 1000 := Nat.le_trans (List.length_filter_le _ _) (by omega)
            walk_at "run"
            have e : (del h o).map iN ++ [iN c] = (del h o ++ [c]).map iN := by
              rw [List.map_append]; rfl
            rw [e, (srt_run _).1]
            walk_at "run"
            have X := H.exl hom.1 hcl hin hom.2
            refine ⟨_, rfl, exl h o c, f ++ [(o, c)], _, _, by rw [List.map_append]; rfl, X.1, X.2, fun x hx => ?_, hch.snoc (p := (o, c)) hom.1 hin X, ?_, ?_⟩
            · rw [htk] at hx
              refine exl_mem.mpr ?_
              rcases List.mem_append.mp hx with hx | hx
              · exact .inl ⟨hsub x hx, fun e => hoj (by rw [← e]; exact List.mem_of_mem_take hx)⟩
              · exact .inr (List.mem_singleton.mp hx)
            · have := less_exl H.nd hom.1 hoj hc
              rw [List.length_append]
              show f.length + 1 + _ = _
              omega
            · rw [List.length_append]
              show f.length + 1 ≤ _
              omega
          · rfl
          · omega
          · refine ⟨_, rfl, ?_, fun _ => rfl⟩
            walk_at "run"
        · refine iSeq_t ?_
          walk_at "run"
          rw [swaps_run H Hr hn hcl]
        · exact Nat.le_trans (List.length_filter_le _ _) (by omega)
        · refine ⟨_, rfl, ?_, fun _ => rfl⟩
          walk_at "run"
          rw [dIn_t, Bool.true_xor]
  obtain ⟨h, f, x5, x6, rfl, H, Hr, hsub, hch, hlen, hfi⟩ := hq
  rw [List.length_map, List.take_length] at hsub
  have hhl := H.len
  have e1 : h = js := ris_eq Hr jr fun x => ⟨fun hx => Classical.byContradiction fun hn => by
    have := nodup_le (p := x :: js) (ks := h) (List.nodup_cons.mpr ⟨hn, J.nd⟩) fun y hy => by
      rcases List.mem_cons.mp hy with rfl | hy
      · exact hx
      · exact hsub y hy
    rw [List.length_cons] at this
    omega, fun hx => hsub x hx⟩
  subst e1
  walk_at "run"
  refine ⟨f, rfl, hch, ?_⟩
  have : less h h = 0 := by
    unfold less
    rw [List.filter_eq_nil_iff.mpr fun x hx => by simp [hx]]
    rfl
  omega
end
end Tw

set_option Elab.async false
set_option linter.all false
set_option maxRecDepth 100000
set_option maxHeartbeats 1000000
namespace Tw
open PySem PySem.Spec PyProof.Rows L2
local macro_rules | `(tactic| walk_at "run") => `(tactic| simp (disch := (first | omega | (simp only [List.length_map, List.length_append, List.length_cons, List.length_nil, labD_len, rng_lng, cut_len, List.length_drop, List.length_take]; omega))) only [ite_self, at0, at1, at2, isi_tt, isi_tl, isi_ti, isi_ii, isi_it, isi_bb, Bool.not_true, Bool.not_false, Bool.true_or, Bool.false_or, Bool.true_and, Bool.false_and, Bool.and_true, Bool.or_false, Bool.and_false, Bool.or_true, labD_at, r_wipe0, r_wipe1, r_wipe2, r_wipe3, r_appE, appD_l, dAddL', dAddT', ite_or, ite_and, r_run0, r_run1, r_run2, r_run3, r_run4, r_and, r_or, r_if, r_seq, r_1, r_2, r_c, r_call, r_cons, r_nil, r_ret, r_set, r_snil, r_asg, r_on1, r_tup0, r_tup1, r_tup2, r_tup3, r_tup4, r_tup5, r_tup6, r_lst0, r_lst1, r_lst2, r_lst3, r_lst4, r_lst5, r_lst6, r_sl, r_pn, r_ps, r_nm, r_int, r_v0, r_vs, r_rtO,
  andO_b, orO_b, ifO_b, seqO_nx, seqO_rt, seqO_ite, outD_ite, o_bind, o_map, List.map_cons, List.map_nil, List.length_cons, List.length_nil, List.cons_append, List.nil_append, List.set_cons_zero, List.set_cons_succ, Nat.reduceAdd, Nat.reduceSub, Nat.zero_add,
  List.replicate_succ, List.replicate_zero, dAdd_i, dSub_i, dNeg_i, dNot_b, dLt_i, dLe_i, dGt_i, dGe_i, dGeA_i, dMul_i, dMul_j, dDiv_i, dMod_i, dEq_i, dNe_i, dEq_b, dLen_l, dLen_t, dTupOf_l, dTupOf_t, dMin2_i, dMax2_i, dInt1_b, dIx_l, dIx_t, dSl_l, dSl_t, r_gTu2, r_gTu3,
  Bool.false_eq_true, if_true, if_false, eq_self, List.length_map, List.length_replicate])
/-! ### what is found a ground is one -/
theorem lns_of {ds : List D} {m : Nat} (h : ds.any (badLn m) = false) : ∃ ls : List Ln, ds = ls.map dLn ∧ ∀ l ∈ ls, LnOk m l := by
  induction ds with
  | nil => exact ⟨[], rfl, fun _ h => by cases h⟩
  | cons d r ih =>
    rw [List.any_cons, Bool.or_eq_false_iff] at h
    obtain ⟨ls, e, hk⟩ := ih h.2
    have hd := h.1
    unfold badLn at hd
    split at hd
    · next a b c =>
      rw [Bool.not_eq_false'] at hd
      unfold isPr at hd
      rw [Bool.and_eq_true, Bool.and_eq_true, Bool.and_eq_true] at hd
      obtain ⟨i, rfl, h1⟩ := num_int hd.1.1.1
      obtain ⟨j, rfl, h2⟩ := num_int hd.1.1.2
      obtain ⟨k, rfl, h4⟩ := num_int hd.2
      have h3 : i < j := by simpa using hd.1.2
      refine ⟨⟨i, j, k⟩ :: ls, by rw [e, List.map_cons], fun l hl => ?_⟩
      rcases List.mem_cons.mp hl with rfl | hl
      · exact ⟨h1.1, h3, by show j < m; omega, h4⟩
      · exact hk l hl
    · cases hd
theorem ground_is {L B : Nat} {d : D} (hd : Gd L B 8 d) (h : G_is_ground [d] = some (.bool true)) : ∃ n ls, d = dGr n ls ∧ 1 ≤ n ∧ n ≤ 7 ∧ ls.length ≤ 21 ∧ ∀ l ∈ ls, LnOk n l := by
  unfold G_is_ground b_is_ground at h
  by_cases ht : ∃ ds, d = .tuple ds
  case neg =>
    have := no_tuple hd.noD fun ds e => ht ⟨ds, e⟩
    revert h
    walk_at "run"
    rw [this]
    walk_at "run"
    intro h
    cases h
  obtain ⟨ds, rfl⟩ := ht
  obtain ⟨hl, hx⟩ := hd.tup
  revert h
  walk_at "run"
  rcases is2 ds with ⟨a, b, rfl⟩ | c
  case inr =>
    rw [decide_eq_false c]
    intro h
    cases h
  have ha : noD a = true := (hx a (by simp)).noD
  have hb := hx b (by simp)
  walk_at "run"
  rw [num_run a _ _ ha]
  walk_at "run"
  rw [two_two]
  cases q1 : isNum a 1 7 with
  | false => intro h; cases h
  | true =>
  obtain ⟨m, rfl, h1, h2⟩ := num_int q1
  walk_at "run"
  by_cases ht : ∃ ls, b = .tuple ls
  case neg =>
    have := no_tuple hb.noD fun ds e => ht ⟨ds, e⟩
    rw [this]
    walk_at "run"
    intro h
    cases h
  obtain ⟨ls, rfl⟩ := ht
  obtain ⟨hl, hxl⟩ := hb.tup
  walk_at "run"
  by_cases c1 : (ls.length : Int) ≤ 21
  case neg =>
    rw [decide_eq_false c1]
    intro h
    cases h
  rw [decide_eq_true c1]
  walk_at "run"
  obtain ⟨n, rfl⟩ : ∃ n : Nat, m = n := ⟨m.toNat, by omega⟩
  rw [comp_typed' ls id (fun d => .bool (!badLn n d)) ?_ ?_ fun d hd' => ?_]
  · walk_at "run"
    rw [dAll_map]
    intro h
    have e3 : ls.all (fun d => !badLn n d) = true := by
      have h : some (PyData.bool (ls.all fun d => !badLn n d)) = some (.bool true) := h
      exact PyData.bool.inj (Option.some.inj h)
    have e4 : ls.any (badLn n) = false := by
      rw [List.any_eq_false]
      intro x hx'
      have := List.all_eq_true.mp e3 x hx'
      simpa using this
    obtain ⟨lls, rfl, hk⟩ := lns_of e4
    rw [List.length_map] at c1
    exact ⟨n, lls, rfl, by omega, by omega, by omega, hk⟩
  · show some ls = _
    rw [List.map_id]
  · omega
  · refine ⟨_, rfl, ?_⟩
    walk_at "run"
    rw [id_eq, line_run (hxl d hd')]
/-! ### its text -/
def sNum (i : Int) : Str := Str.ofString (toString i)
theorem num_len {i : Int} (h0 : 0 ≤ i) (h : i ≤ 1000) : (sNum i).length ≤ 4 := by
  have t : (List.range 1001).all (fun i => decide ((Str.ofString (toString (i : Int))).length ≤ 4)) = true := by decide +kernel
  have := List.all_eq_true.mp t i.toNat (List.mem_range.mpr (by omega))
  rw [decide_eq_true_eq, Int.toNat_of_nonneg h0] at this
  exact this
theorem join_snoc (s x : Str) {ys : List Str} (h : ys ≠ []) : Txt.join s (ys ++ [x]) = Txt.join s ys ++ s ++ x := by
  cases ys with
  | nil => exact absurd rfl h
  | cons y r =>
    unfold Txt.join Builtin.Str.glued
    show (⟨List.foldl _ y.cps (r ++ [x])⟩ : Str) = _
    rw [List.foldl_append]
    rfl
def lnW (l : Ln) : List Str := ["line", sNum l.a, sNum l.b, sNum l.w]
def grW (n : Nat) (ls : List Ln) : List Str := (["spots", sNum n] : List Str) ++ (ls.map lnW).flatten
def grT (n : Nat) (ls : List Ln) : Str := Txt.join " " (grW n ls)
def extD (i : Nat) (ρ : Rho) (l d : D) : Option Out := match l, d with
  | .list ds, .list es => if ds.length + es.length ≤ LIM then some (.nx (ρ.set i (some (.list (ds ++ es))))) else none
  | _, _ => none
theorem r_ext {i : Nat} {f : Ex} {ρ : Rho} {ds es : List D} (h : xVar i ρ = some (.list ds)) (h' : f ρ = some (.list es)) (hl : ds.length + es.length ≤ 1000000) : sExt i f ρ = some (.nx (ρ.set i (some (.list (ds ++ es))))) := by
  unfold xVar at h
  unfold sExt
  split at h
  · next d e =>
    cases h
    rw [e]
    show (match f ρ with
      | some (.list es) => if ds.length + es.length ≤ LIM then some (Out.nx (ρ.set i (some (.list (ds ++ es))))) else none
      | _ => none) = _
    rw [h']
    exact if_pos hl
  · cases h
theorem strs_words {ys : List Str} : strsOf (ys.map PyData.str) = some ys := strsOf_map ys
theorem words_ok (n : Nat) (ls : List Ln) (hn : n ≤ 7) (h : ∀ l ∈ ls, LnOk n l) : (grW n ls).length = 2 + 4 * ls.length ∧ ∀ y ∈ grW n ls, y.length ≤ 5 := by
  unfold grW
  constructor
  · rw [List.length_append, List.length_flatten, List.map_map]
    have : ∀ ls : List Ln, (ls.map (List.length ∘ lnW)).sum = 4 * ls.length := by
      intro ls
      induction ls with
      | nil => rfl
      | cons l r ih => rw [List.map_cons, List.sum_cons, ih, List.length_cons]; show 4 + _ = _; omega
    rw [this]
    rfl
  · intro y hy
    rcases List.mem_append.mp hy with hy | hy
    · simp only [List.mem_cons, List.not_mem_nil, or_false] at hy
      rcases hy with rfl | rfl
      · decide +kernel
      · have := num_len (i := (n : Int)) (by omega) (by omega); omega
    · obtain ⟨l, hl, hy⟩ := List.mem_flatten.mp hy
      obtain ⟨x, hx, rfl⟩ := List.mem_map.mp hl
      have hk := h x hx
      have h1 := hk.1
      have h2 := hk.2.1
      have h3 := hk.2.2.1
      have h4 := hk.2.2.2.1
      have h5 := hk.2.2.2.2
      unfold lnW at hy
      simp only [List.mem_cons, List.not_mem_nil, or_false] at hy
      rcases hy with rfl | rfl | rfl | rfl
      · decide +kernel
      · have := num_len (i := x.a) (by omega) (by omega); omega
      · have := num_len (i := x.b) (by omega) (by omega); omega
      · have := num_len (i := x.w) (by omega) (by omega); omega
theorem sum_le (ys : List Str) (h : ∀ y ∈ ys, y.length ≤ 5) : (ys.map (·.length)).sum ≤ 5 * ys.length := by
  induction ys with
  | nil => exact Nat.le_refl _
  | cons y r ih =>
    have h1 := h y List.mem_cons_self
    have h2 := ih fun z hz => h z (List.mem_cons_of_mem _ hz)
    rw [List.map_cons, List.sum_cons, List.length_cons]
    omega
theorem dStr_num {i : Int} (h : i.natAbs ≤ 2000) : dStr1 (.int i) = some (.str (sNum i)) := dStr1_i h
theorem text_run {n : Nat} {ls : List Ln} (hn : n ≤ 7) (hl : ls.length ≤ 21) (h : ∀ l ∈ ls, LnOk n l) : G_ground_text [dGr n ls] = some (.str (grT n ls)) := by
  unfold G_ground_text b_ground_text
  walk_at "run"
  rw [dStr_num (by omega)]
  walk_at "run"
  generalize e : sFor _ _ _ _ = o
  obtain ⟨ρ', rfl, hq⟩ := for_all e (ds := ls.map dLn) (iSeq_t (by walk_at "run")) (fun i ρ => ∃ x2, ρ = [some (dGr n ls), some (.list ((grW n (ls.take i)).map PyData.str)), x2, none])
    ⟨_, rfl⟩ fun i d ρ hd hq => by
      obtain ⟨x2, rfl⟩ := hq
      rw [List.getElem?_map] at hd
      cases hd' : ls[i]? with
      | none => rw [hd'] at hd; cases hd
      | some l =>
      rw [hd'] at hd
      obtain rfl : dLn l = d := Option.some.inj hd
      have hk := h l (List.mem_of_getElem? hd')
      have h1 := hk.1
      have h2 := hk.2.1
      have h3 := hk.2.2.1
      have h4 := hk.2.2.2.1
      have h5 := hk.2.2.2.2
      have htk : ls.take (i + 1) = ls.take i ++ [l] := by rw [List.take_succ, hd']; rfl
      have hgw : grW n (ls.take (i + 1)) = grW n (ls.take i) ++ lnW l := by
        unfold grW
        rw [htk, List.map_append, List.flatten_append, ← List.append_assoc]
        simp
      have hwl := (words_ok n (ls.take i) hn fun l hl => h l (List.mem_of_mem_take hl)).1
      rw [List.length_take] at hwl
      refine ⟨_, rfl, ?_⟩
      rw [r_ext (ds := (grW n (ls.take i)).map PyData.str) (es := (lnW l).map PyData.str) (by walk_at "run") ?_ (by rw [List.length_map, List.length_map]; show _ + 4 ≤ _; omega)]
      · refine ⟨_, rfl, some (dLn l), ?_⟩
        rw [hgw, List.map_append]
        rfl
      · walk_at "run"
        rw [comp_typed' [l.a, l.b, l.w] PyData.int (fun i => .str (sNum i)) ?_ ?_ fun i hi => ?_]
        · walk_at "run"
          rfl
        · rfl
        · show 3 ≤ _; omega
        · refine ⟨_, rfl, ?_⟩
          walk_at "run"
          refine dStr_num ?_
          simp only [List.mem_cons, List.not_mem_nil, or_false] at hi
          rcases hi with rfl | rfl | rfl <;> omega
  obtain ⟨x2, rfl⟩ := hq
  rw [List.length_map, List.take_length]
  have hw := words_ok n ls hn h
  have hs := sum_le _ hw.2
  walk_at "run"
  have : dJoin (.str " ") (.list ((grW n ls).map PyData.str)) = some (.str (grT n ls)) := by
    show (strsOf ((grW n ls).map PyData.str)).bind _ = _
    rw [strsOf_map, o_bind]
    refine if_pos ?_
    have : Str.length " " = 1 := by decide +kernel
    rw [this]
    omega
  rw [this]
  rfl
theorem dAdd_s {a b : Str} (h : a.length + b.length ≤ 1000000) : dAdd (.str a) (.str b) = some (.str (a ++ b)) := if_pos h
theorem grW_ne (n : Nat) (ls : List Ln) : grW n ls ≠ [] := by
  unfold grW
  exact fun h => by cases h
theorem grT_snoc (n : Nat) (ls : List Ln) (l : Ln) : grT n (ls ++ [l]) = grT n ls ++ " line " ++ sNum l.a ++ " " ++ sNum l.b ++ " " ++ sNum l.w := by
  have e : grW n (ls ++ [l]) = grW n ls ++ [("line" : Str)] ++ [sNum l.a] ++ [sNum l.b] ++ [sNum l.w] := by
    unfold grW
    rw [List.map_append, List.flatten_append]
    simp [lnW]
  have e2 : (" " : Str) ++ "line" ++ " " = " line " := by decide +kernel
  unfold grT
  rw [e, join_snoc _ _ (by simp), join_snoc _ _ (by simp), join_snoc _ _ (by simp), join_snoc _ _ (grW_ne n ls), ← e2]
  simp only [Str.append_assoc]
theorem l_text_run {n : Nat} {ls : List Ln} (hn : n ≤ 7) (hl : ls.length ≤ 21) (h : ∀ l ∈ ls, LnOk n l) : G_l_written [dGr n ls] = some (.str (grT n ls)) := by
  have lsp : Str.length " " = 1 := by decide +kernel
  have lli : Str.length " line " = 6 := by decide +kernel
  have lss : Str.length "spots " = 6 := by decide +kernel
  unfold G_l_written b_l_written
  walk_at "run"
  have hnl := num_len (i := (n : Int)) (by omega) (by omega)
  rw [dStr_num (by omega)]
  walk_at "run"
  rw [dAdd_s (by omega)]
  walk_at "run"
  have e0 : ("spots " : Str) ++ sNum n = grT n [] := by
    have e2 : ("spots" : Str) ++ " " = "spots " := by decide +kernel
    show _ = Txt.join " " ([("spots" : Str)] ++ [sNum n])
    rw [join_snoc _ _ (by simp), ← e2]
    rfl
  rw [e0]
  generalize e : sFor _ _ _ _ = o
  obtain ⟨ρ', rfl, hq⟩ := for_all e (ds := ls.map dLn) (iSeq_t (by walk_at "run")) (fun i ρ => ∃ x2 x3 x4, ρ = [some (dGr n ls), some (.str (grT n (ls.take i))), x2, x3, x4] ∧ (grT n (ls.take i)).length ≤ 20 + 20 * i)
    ⟨_, _, _, rfl, by rw [List.take_zero, ← e0, Str.length_append]; omega⟩ fun i d ρ hd hq => by
      obtain ⟨x2, x3, x4, rfl, hlen⟩ := hq
      rw [List.getElem?_map] at hd
      cases hd' : ls[i]? with
      | none => rw [hd'] at hd; cases hd
      | some l =>
      rw [hd'] at hd
      obtain rfl : dLn l = d := Option.some.inj hd
      have hk := h l (List.mem_of_getElem? hd')
      have h1 := hk.1
      have h2 := hk.2.1
      have h3 := hk.2.2.1
      have h4 := hk.2.2.2.1
      have h5 := hk.2.2.2.2
      have n1 := num_len (i := l.a) (by omega) (by omega)
      have n2 := num_len (i := l.b) (by omega) (by omega)
      have n3 := num_len (i := l.w) (by omega) (by omega)
      have hil := (List.getElem?_eq_some_iff.mp hd').1
      have htk : ls.take (i + 1) = ls.take i ++ [l] := by rw [List.take_succ, hd']; rfl
      refine ⟨_, r_gTu3, ?_⟩
      rw [htk, grT_snoc]
      generalize grT n (ls.take i) = T at hlen ⊢
      walk_at "run"
      rw [dStr_num (by omega), dStr_num (by omega), dStr_num (by omega)]
      have L1 : (T ++ " line ").length ≤ 26 + 20 * i := by rw [Str.length_append]; omega
      have L2 : (T ++ " line " ++ sNum l.a).length ≤ 30 + 20 * i := by rw [Str.length_append]; omega
      have L3 : (T ++ " line " ++ sNum l.a ++ " ").length ≤ 31 + 20 * i := by rw [Str.length_append]; omega
      have L4 : (T ++ " line " ++ sNum l.a ++ " " ++ sNum l.b).length ≤ 35 + 20 * i := by rw [Str.length_append]; omega
      have L5 : (T ++ " line " ++ sNum l.a ++ " " ++ sNum l.b ++ " ").length ≤ 36 + 20 * i := by rw [Str.length_append]; omega
      have L6 : (T ++ " line " ++ sNum l.a ++ " " ++ sNum l.b ++ " " ++ sNum l.w).length ≤ 40 + 20 * i := by rw [Str.length_append]; omega
      walk_at "run"
      rw [dAdd_s (by omega)]
      walk_at "run"
      rw [dAdd_s (by omega)]
      walk_at "run"
      rw [dAdd_s (by omega)]
      walk_at "run"
      rw [dAdd_s (by omega)]
      walk_at "run"
      rw [dAdd_s (by omega)]
      walk_at "run"
      rw [dAdd_s (by omega)]
      walk_at "run"
      exact ⟨_, rfl, _, _, _, rfl, by omega⟩
  obtain ⟨x2, x3, x4, rfl, hlen⟩ := hq
  rw [List.length_map, List.take_length]
  walk_at "run"
theorem strOk_app {a b : Str} (ha : PyData.strOk a = true) (hb : PyData.strOk b = true) : PyData.strOk (a ++ b) = true := by
  unfold PyData.strOk at ha hb ⊢
  rw [Str.cps_append, Array.all_append, ha, hb]
  rfl
theorem grT_ok (n : Nat) (ls : List Ln) : PyData.strOk (grT n ls) = true := by
  suffices h : ∀ (m : Nat) (ls : List Ln), ls.length = m → PyData.strOk (grT n ls) = true from h _ ls rfl
  intro m
  induction m with
  | zero =>
    intro ls hl
    obtain rfl := List.length_eq_zero_iff.mp hl
    show PyData.strOk (Txt.join " " ([("spots" : Str)] ++ [sNum n])) = true
    rw [join_snoc _ _ (by simp)]
    exact strOk_app (strOk_app (by decide +kernel) (by decide +kernel)) (strOk_of _)
  | succ m ih =>
    intro ls hl
    rcases snoc_cases ls with rfl | ⟨qs, p, rfl⟩
    · cases hl
    · rw [grT_snoc]
      have := ih qs (by simpa using hl)
      exact strOk_app (strOk_app (strOk_app (strOk_app (strOk_app (strOk_app this (by decide +kernel)) (strOk_of _)) (by decide +kernel)) (strOk_of _)) (by decide +kernel)) (strOk_of _)
end Tw

set_option Elab.async false
set_option linter.all false
set_option maxRecDepth 100000
set_option maxHeartbeats 1000000
namespace Tw
open PySem PySem.Spec PyProof.Rows L2
local macro_rules | `(tactic| walk_at "run") => `(tactic| simp (disch := (first | omega | (simp only [List.length_map, List.length_append, List.length_cons, List.length_nil, labD_len, rng_lng, cut_len, List.length_drop, List.length_take]; omega))) only [ite_self, at0, at1, at2, isi_tt, isi_tl, isi_ti, isi_ii, isi_it, isi_bb, Bool.not_true, Bool.not_false, Bool.true_or, Bool.false_or, Bool.true_and, Bool.false_and, Bool.and_true, Bool.or_false, Bool.and_false, Bool.or_true, labD_at, r_wipe0, r_wipe1, r_wipe2, r_wipe3, r_appE, appD_l, dAddL', dAddT', ite_or, ite_and, r_run0, r_run1, r_run2, r_run3, r_run4, r_and, r_or, r_if, r_seq, r_1, r_2, r_c, r_call, r_cons, r_nil, r_ret, r_set, r_snil, r_asg, r_on1, r_tup0, r_tup1, r_tup2, r_tup3, r_tup4, r_tup5, r_tup6, r_lst0, r_lst1, r_lst2, r_lst3, r_lst4, r_lst5, r_lst6, r_sl, r_pn, r_ps, r_nm, r_int, r_v0, r_vs, r_rtO,
  andO_b, orO_b, ifO_b, seqO_nx, seqO_rt, seqO_ite, outD_ite, o_bind, o_map, List.map_cons, List.map_nil, List.length_cons, List.length_nil, List.cons_append, List.nil_append, List.set_cons_zero, List.set_cons_succ, Nat.reduceAdd, Nat.reduceSub, Nat.zero_add,
  List.replicate_succ, List.replicate_zero, dAdd_i, dSub_i, dNeg_i, dNot_b, dLt_i, dLe_i, dGt_i, dGe_i, dGeA_i, dMul_i, dMul_j, dDiv_i, dMod_i, dEq_i, dNe_i, dEq_b, dLen_l, dLen_t, dTupOf_l, dTupOf_t, dMin2_i, dMax2_i, dInt1_b, dIx_l, dIx_t, dSl_l, dSl_t, r_gTu2, r_gTu3,
  Bool.false_eq_true, if_true, if_false, eq_self, List.length_map, List.length_replicate])
/-! ### words that are numbers -/
def isFig (c : Nat) : Bool := decide (48 ≤ c) && decide (c ≤ 57)
abbrev FIG : Str := "0123456789"
theorem fig_tl : (FIG : Str).cps.toList = [48, 49, 50, 51, 52, 53, 54, 55, 56, 57] := by decide +kernel
theorem fig_mem (c : Nat) : decide (c ∈ (FIG : Str).cps.toList) = isFig c := by
  rw [fig_tl, Bool.eq_iff_iff]
  unfold isFig
  simp only [decide_eq_true_eq, List.mem_cons, List.not_mem_nil, or_false, Bool.and_eq_true]
  omega
def numW (k : Nat) (w : Str) : Option Nat := if (1 ≤ w.length ∧ w.length ≤ k) ∧ w.cps.toList.all isFig = true then some (NumText.digitsVal w.cps.toList) else none
abbrev chS (c : Nat) : Str := ⟨#[c]⟩
theorem fig_in (c : Nat) : dInS false (.str (chS c)) (.str FIG) = some (.bool (isFig c)) := by
  rw [← fig_mem]
  show some (PyData.bool (xor false _)) = _
  rw [Bool.false_xor]
theorem fig_find (c : Nat) : ∃ i : Int, dFind (.str FIG) (.str (chS c)) = some (.int i) ∧ decide (i < 0) = !isFig c := by
  refine ⟨_, rfl, ?_⟩
  have e : (!(Builtin.Str.occurrences FIG (chS c) 0 (Str.length FIG) 1).isEmpty) = isFig c := by
    have := SX.in_one (FIG : Str).cps.toList c
    rw [SX.S_tl] at this
    rw [← fig_mem]
    exact this
  rw [← e]
  unfold Txt.find
  cases Builtin.Str.occurrences FIG (chS c) 0 (Str.length FIG) 1 with
  | nil => rfl
  | cons i r =>
    show decide (((i : Nat) : Int) < 0) = _
    rw [decide_eq_false (by omega)]
    rfl
theorem dLen_s {z : Str} (h : z.length ≤ 1000000) : dLen (.str z) = some (.int z.length) := if_pos h
theorem fig_val {w : Str} {k : Nat} (hk : k ≤ 640) (h : (1 ≤ w.length ∧ w.length ≤ k) ∧ w.cps.toList.all isFig = true) : dIntS (.str w) = some (.int (NumText.digitsVal w.cps.toList : Nat)) := by
  have hl : w.cps.toList.length = w.length := Array.length_toList
  have := SX.int_S (a := w.cps.toList) h.2 (fun e => by rw [e] at hl; simp at hl; omega) (by omega)
  rw [SX.S_tl] at this
  show (if _ then _ else _) = _
  rw [if_pos (by omega), this]
  rfl
theorem strOk_ch {w : Str} {c : Nat} (h : PyData.strOk w = true) (hc : c ∈ w.cps.toList) : PyData.strOk (chS c) = true := by
  unfold PyData.strOk at h ⊢
  rw [Array.all_eq_true'] at h
  have := h c (Array.mem_def.mpr hc)
  simpa using this
theorem ch_iter {f : Ex} {ρ : Rho} {w : Str} (h : f ρ = some (.str w)) (hl : w.length ≤ 1000000) : iStrD f ρ = some (w.cps.toList.map fun c => .str (chS c)) := by
  unfold iStrD
  rw [h]
  exact if_pos hl
theorem number_run {w : Str} (hl : w.length ≤ 1000000) : G_number_of [.str w] = some (match numW 4 w with | some n => .int n | none => exD) := by
  have hl' : w.cps.toList.length ≤ 1000000 := by rw [Array.length_toList]; exact hl
  unfold G_number_of b_number_of
  walk_at "run"
  rw [r_chainLe _ _ _ _ (i := 1) (j := w.length) (k := 4) (by walk_at "run") (by walk_at "run"; rw [dLen_s hl]) (by walk_at "run")]
  rw [comp_typed' w.cps.toList (fun c => .str (chS c)) (fun c => .bool (isFig c)) (ch_iter (by walk_at "run") hl) hl' fun c hc => ⟨_, rfl, by walk_at "run"; rw [fig_in]⟩]
  walk_at "run"
  rw [dAll_map]
  walk_at "run"
  unfold numW
  by_cases c : (1 ≤ w.length ∧ w.length ≤ 4) ∧ w.cps.toList.all isFig = true
  · rw [if_pos c, c.2, decide_eq_true (by omega), decide_eq_true (by omega)]
    walk_at "run"
    rw [fig_val (by omega) c]
    rfl
  · rw [if_neg c]
    have : (!(decide ((1 : Int) ≤ (w.length : Int)) && decide ((w.length : Int) ≤ 4)) || !w.cps.toList.all isFig) = true := by
      cases h : w.cps.toList.all isFig with
      | false => simp
      | true =>
        have : ¬ (1 ≤ w.length ∧ w.length ≤ 4) := fun z => c ⟨z, h⟩
        rw [Bool.not_true, Bool.or_false, Bool.not_eq_true', Bool.and_eq_false_iff, decide_eq_false_iff_not, decide_eq_false_iff_not]
        omega
    rw [this]
    walk_at "run"
    rfl
theorem l_number_run {w : Str} {k : Nat} (hk : k ≤ 640) (hs : PyData.strOk w = true) (hl : w.length ≤ 1000000) : G_l_number_of [.str w, .int k] = some (match numW k w with | some n => .int n | none => .none) := by
  have hl' : w.cps.toList.length ≤ 1000000 := by rw [Array.length_toList]; exact hl
  unfold G_l_number_of b_l_number_of
  walk_at "run"
  rw [r_chainLe _ _ _ _ (i := 1) (j := w.length) (k := k) (by walk_at "run") (by walk_at "run"; rw [dLen_s hl]) (by walk_at "run")]
  rw [comp_typed w.cps.toList (fun c => .str (chS c)) (fun c => !isFig c) (fun c => .str (chS c)) (ch_iter (by walk_at "run") hl) hl' fun c hc => ⟨_, rfl, by
    obtain ⟨i, h1, h2⟩ := fig_find c
    walk_at "run"
    rw [h1]
    walk_at "run"
    rw [h2], fun _ => by walk_at "run"⟩]
  walk_at "run"
  rw [dNe_nil fun d hd => by
    obtain ⟨c, hc, rfl⟩ := List.mem_map.mp hd
    exact ⟨by rw [PyData.canLay0]; exact strOk_ch hs (List.mem_filter.mp hc).1, Nat.zero_le _⟩]
  have he : (!((w.cps.toList.filter fun c => !isFig c).map fun c => PyData.str (chS c)).isEmpty) = !w.cps.toList.all isFig := by
    rw [List.isEmpty_map]
    congr 1
    generalize w.cps.toList = l
    induction l with
    | nil => rfl
    | cons c r ih =>
      rw [List.filter_cons, List.all_cons]
      cases isFig c with
      | false => rfl
      | true => rw [if_neg (by decide), ih]; rfl
  rw [he]
  walk_at "run"
  unfold numW
  by_cases c : (1 ≤ w.length ∧ w.length ≤ k) ∧ w.cps.toList.all isFig = true
  · rw [if_pos c, c.2, decide_eq_true (by omega), decide_eq_true (by omega)]
    walk_at "run"
    rw [fig_val hk c]
    rfl
  · rw [if_neg c]
    have : (!(decide ((1 : Int) ≤ (w.length : Int)) && decide ((w.length : Int) ≤ (k : Int))) || !w.cps.toList.all isFig) = true := by
      cases h : w.cps.toList.all isFig with
      | false => simp
      | true =>
        have : ¬ (1 ≤ w.length ∧ w.length ≤ k) := fun z => c ⟨z, h⟩
        rw [Bool.not_true, Bool.or_false, Bool.not_eq_true', Bool.and_eq_false_iff, decide_eq_false_iff_not, decide_eq_false_iff_not]
        omega
    rw [this]
    walk_at "run"
theorem fold_lt : ∀ (cs : List Nat) (acc : Nat), cs.all isFig = true → cs.foldl (fun acc c => acc * 10 + (c - 48)) acc < (acc + 1) * 10 ^ cs.length
  | [], acc, _ => by simp
  | c :: r, acc, h => by
    rw [List.all_cons, Bool.and_eq_true] at h
    have ih := fold_lt r (acc * 10 + (c - 48)) h.2
    have hc : c ≤ 57 := by
      have := h.1
      unfold isFig at this
      simp at this
      omega
    rw [List.foldl_cons, List.length_cons, Nat.pow_succ, Nat.mul_comm (10 ^ r.length) 10, ← Nat.mul_assoc]
    refine Nat.lt_of_lt_of_le ih (Nat.mul_le_mul_right _ ?_)
    omega
theorem numW_lt {k : Nat} {w : Str} {n : Nat} (hk : k ≤ 4) (h : numW k w = some n) : n < 10000 := by
  unfold numW at h
  split at h <;> cases h
  rename_i c
  have h1 := fold_lt w.cps.toList 0 c.2
  rw [Array.length_toList] at h1
  have h2 : 10 ^ w.cps.size ≤ 10 ^ 4 := Nat.pow_le_pow_right (by omega) (Nat.le_trans c.1.2 hk)
  have : NumText.digitsVal w.cps.toList < (0 + 1) * 10 ^ w.cps.size := h1
  omega
end Tw

set_option Elab.async false
set_option linter.all false
set_option maxRecDepth 100000
set_option maxHeartbeats 1000000
namespace Tw
open PySem PySem.Spec PyProof.Rows L2
local macro_rules | `(tactic| walk_at "run") => `(tactic| simp (disch := (first | omega | (simp only [List.length_map, List.length_append, List.length_cons, List.length_nil, labD_len, rng_lng, cut_len, List.length_drop, List.length_take]; omega))) only [ite_self, at0, at1, at2, isi_tt, isi_tl, isi_ti, isi_ii, isi_it, isi_bb, Bool.not_true, Bool.not_false, Bool.true_or, Bool.false_or, Bool.true_and, Bool.false_and, Bool.and_true, Bool.or_false, Bool.and_false, Bool.or_true, labD_at, r_wipe0, r_wipe1, r_wipe2, r_wipe3, r_appE, appD_l, dAddL', dAddT', ite_or, ite_and, r_run0, r_run1, r_run2, r_run3, r_run4, r_and, r_or, r_if, r_seq, r_1, r_2, r_c, r_call, r_cons, r_nil, r_ret, r_set, r_snil, r_asg, r_on1, r_tup0, r_tup1, r_tup2, r_tup3, r_tup4, r_tup5, r_tup6, r_lst0, r_lst1, r_lst2, r_lst3, r_lst4, r_lst5, r_lst6, r_sl, r_pn, r_ps, r_nm, r_int, r_v0, r_vs, r_rtO,
  andO_b, orO_b, ifO_b, seqO_nx, seqO_rt, seqO_ite, outD_ite, o_bind, o_map, List.map_cons, List.map_nil, List.length_cons, List.length_nil, List.cons_append, List.nil_append, List.set_cons_zero, List.set_cons_succ, Nat.reduceAdd, Nat.reduceSub, Nat.zero_add,
  List.replicate_succ, List.replicate_zero, dAdd_i, dSub_i, dNeg_i, dNot_b, dLt_i, dLe_i, dGt_i, dGe_i, dGeA_i, dMul_i, dMul_j, dDiv_i, dMod_i, dEq_i, dNe_i, dEq_b, dLen_l, dLen_t, dTupOf_l, dTupOf_t, dMin2_i, dMax2_i, dInt1_b, dIx_l, dIx_t, dSl_l, dSl_t, r_gTu2, r_gTu3,
  Bool.false_eq_true, if_true, if_false, eq_self, List.length_map, List.length_replicate])
/-! ### the words of a text: read -/
abbrev sW (W : List Str) : List D := W.map PyData.str
structure WOk (W : List Str) : Prop where
  ok : ∀ w ∈ W, PyData.strOk w = true ∧ w.length ≤ 1000000
  len : W.length < 900000
def seg (W : List Str) (k : Nat) : List Str := (W.drop (3 + 4 * k)).take 3
def numsO : List Str → Option (List Nat)
  | [] => some []
  | w :: r => match numW 4 w, numsO r with
    | some n, some ns => some (n :: ns)
    | _, _ => none
abbrev iD (n : Nat) : D := .int (n : Nat)
def trD (ns : List Nat) : D := .tuple (ns.map iD)
def segN (W : List Str) (k : Nat) : List Nat := (numsO (seg W k)).getD []
def lnsD (W : List Str) (m : Nat) : List D := (List.range m).map fun k => trD (segN W k)
def mW (W : List Str) : Nat := (W.length + 1) / 4
theorem seg_sub {W : List Str} {k : Nat} {w : Str} (h : w ∈ seg W k) : w ∈ W := List.mem_of_mem_drop (List.mem_of_mem_take h)
theorem compX_nums {a b c d e : Option D} : ∀ {ws : List Str}, (∀ w ∈ ws, w.length ≤ 1000000) →
    compGoX (gNm 5) (xCall G_number_of (xCons (xVar 5) xNil)) [a, b, c, d, e, none] (sW ws) = some (match numsO ws with | some ns => .list (ns.map iD) | none => exD)
  | [], _ => rfl
  | w :: r, h => by
    have ih := compX_nums (a := a) (b := b) (c := c) (d := d) (e := e) (ws := r) fun x hx => h x (List.mem_cons_of_mem _ hx)
    rw [sW, List.map_cons, compGoX]
    rw [r_nm, o_bind]
    have e1 : xCall G_number_of (xCons (xVar 5) xNil) ([a, b, c, d, e, none].set 5 (some (PyData.str w))) = some (match numW 4 w with | some n => .int n | none => exD) := by
      walk_at "run"
      exact number_run (h w List.mem_cons_self)
    rw [e1, o_bind, ih, numsO]
    cases numW 4 w with
    | none => rfl
    | some n =>
      cases numsO r with
      | none => rfl
      | some ns => rfl
theorem pick24_map {α β : Type} (f : α → β) (xs : List α) : pick24 (xs.map f) = (pick24 xs).map f := by
  unfold pick24
  rw [List.length_map, List.map_filterMap]
  apply fm_congr
  intro k _
  rw [List.getElem?_map]
theorem cut_seg {W : List Str} {k : Nat} (h : 6 + 4 * k ≤ W.length) : cutD (sW W) (some (2 + (k : Nat) * 4 + 1)) (some (2 + (k : Nat) * 4 + 4)) = sW (seg W k) := by
  have e1 : (2 + ((k : Nat) : Int) * 4 + 1) = ((3 + 4 * k : Nat) : Int) := by omega
  have e2 : (2 + ((k : Nat) : Int) * 4 + 4) = ((6 + 4 * k : Nat) : Int) := by omega
  rw [cutD_map, e1, e2, HT.sIx_nat, HT.sIx_nat, Nat.min_eq_left (by omega), Nat.min_eq_left (by omega)]
  have e3 : 6 + 4 * k - (3 + 4 * k) = 3 := by omega
  rw [e3]
  rfl
theorem iR24_i {fa fb fc : Ex} {ρ : Rho} {n : Nat} (h1 : fa ρ = some (.int 2)) (h2 : fb ρ = some (.int n)) (h3 : fc ρ = some (.int 4)) (hn : n < 900000) : iR24 fa fb fc ρ = some ((List.range ((n + 1) / 4)).map fun k => .int (2 + (k : Nat) * 4)) := by
  unfold iR24
  split
  · next j e1 e2 e3 =>
    rw [h2] at e2
    cases e2
    rw [if_pos (show 0 ≤ (n : Int) ∧ (n : Int) < 1000000 by omega), Int.toNat_natCast]
  · next hne => exact absurd h3 (hne n h1 h2)
theorem dEq_s {a b : Str} (ha : PyData.strOk a = true) (hb : PyData.strOk b = true) : dEq (.str a) (.str b) = some (.bool (a == b)) := by
  unfold dEq
  rw [if_pos ⟨Shp.ok (k := 0) ⟨by rw [PyData.canLay0]; exact ha, Nat.zero_le _⟩ (by omega), Shp.ok (k := 0) ⟨by rw [PyData.canLay0]; exact hb, Nat.zero_le _⟩ (by omega)⟩]
  rfl
theorem dNe_s {a b : Str} (ha : PyData.strOk a = true) (hb : PyData.strOk b = true) : dNe (.str a) (.str b) = some (.bool (!(a == b))) := by
  unfold dNe
  rw [if_pos ⟨Shp.ok (k := 0) ⟨by rw [PyData.canLay0]; exact ha, Nat.zero_le _⟩ (by omega), Shp.ok (k := 0) ⟨by rw [PyData.canLay0]; exact hb, Nat.zero_le _⟩ (by omega)⟩]
  rfl
abbrev LINE : Str := "line"
def badR (W : List Str) : D → Bool
  | .int i => (numsO (seg W ((i - 2) / 4).toNat)).isNone
  | _ => true
def badL (W : List Str) : D → Bool
  | .int i => (numsO (seg W ((i - 2) / 4).toNat)).isNone || !(W[i.toNat]? == some LINE)
  | _ => true
theorem badR_at (W : List Str) (k : Nat) : badR W (.int (2 + (k : Nat) * 4)) = (numsO (seg W k)).isNone := by
  have : ((2 + ((k : Nat) : Int) * 4 - 2) / 4).toNat = k := by omega
  show (numsO (seg W ((2 + ((k : Nat) : Int) * 4 - 2) / 4).toNat)).isNone = _
  rw [this]
theorem badL_at (W : List Str) (k : Nat) : badL W (.int (2 + (k : Nat) * 4)) = ((numsO (seg W k)).isNone || !(W[2 + 4 * k]? == some LINE)) := by
  have : ((2 + ((k : Nat) : Int) * 4 - 2) / 4).toNat = k := by omega
  have e2 : (2 + ((k : Nat) : Int) * 4).toNat = 2 + 4 * k := by omega
  show ((numsO (seg W ((2 + ((k : Nat) : Int) * 4 - 2) / 4).toNat)).isNone || !(W[(2 + ((k : Nat) : Int) * 4).toNat]? == some LINE)) = _
  rw [this, e2]
theorem r_appX {i : Nat} {f : Ex} {ρ : Rho} {ds : List D} (h : ρ[i]? = some (some (.list ds))) : sAppX i f ρ = (f ρ).bind fun d => if isEx d = true then some (.rt exD) else if ds.length < LIM then some (.nx (ρ.set i (some (.list (ds ++ [d]))))) else none := by
  unfold sAppX
  rw [h]
theorem r_compX {fi : It1} {vs : List Nat} {tg : Tg} {elt : Ex} {ρ : Rho} {ds : List D} (h : fi ρ = some ds) (hl : ds.length ≤ 1000000) : xCompX fi vs tg elt ρ = compGoX tg elt (wipeR ρ vs) ds := by
  unfold xCompX
  rw [h, o_bind]
  exact if_pos hl
/-- read's loop -/
theorem lines_run {z : Str} {W : List Str} (hW : WOk W) (h4 : W.length % 4 = 2) {o : Option Out}
    (e : sFor (iR24 (xC (.int 2)) (xCall (on1 dLen) (g1 (xVar 1))) (xC (.int 4))) (gNm 3) (sAppX 2 (x1 dTupX (xCompX (iSeq (xSl (xVar 1) (some (x2 dAdd (xVar 3) (xC (.int 1)))) (some (x2 dAdd (xVar 3) (xC (.int 4)))))) [5] (gNm 5) (xCall G_number_of (xCons (xVar 5) xNil))))) [some (.str z), some (.list (sW W)), some (.list []), none, none, none] = o) :
    ((∃ k < mW W, numsO (seg W k) = none) ∧ o = some (.rt exD)) ∨ ((∀ k < mW W, numsO (seg W k) ≠ none) ∧ ∃ x3, o = some (.nx [some (.str z), some (.list (sW W)), some (.list (lnsD W (mW W))), x3, none, none])) := by
  have hl := hW.len
  have hm : 4 * mW W + 2 = W.length := by unfold mW; omega
  have hi : iR24 (xC (.int 2)) (xCall (on1 dLen) (g1 (xVar 1))) (xC (.int 4)) [some (.str z), some (.list (sW W)), some (.list []), none, none, none] = some ((List.range (mW W)).map fun k => .int (2 + (k : Nat) * 4)) :=
    iR24_i (by walk_at "run") (by walk_at "run") (by walk_at "run") hl
  have k2 := for_some e hi (fun i ρ => ∃ x3, ρ = [some (.str z), some (.list (sW W)), some (.list (lnsD W i)), x3, none, none]) exD (badR W) ⟨_, rfl⟩ fun i d ρ hd hq => by
    obtain ⟨x3, rfl⟩ := hq
    have hi := (List.getElem?_eq_some_iff.mp hd).1
    rw [List.length_map, List.length_range] at hi
    rw [List.getElem?_map, List.getElem?_range hi] at hd
    obtain rfl : PyData.int (2 + (i : Nat) * 4) = d := Option.some.inj hd
    refine ⟨_, rfl, ?_⟩
    rw [badR_at]
    have hs : iSeq (xSl (xVar 1) (some (x2 dAdd (xVar 3) (xC (.int 1)))) (some (x2 dAdd (xVar 3) (xC (.int 4))))) [some (.str z), some (.list (sW W)), some (.list (lnsD W i)), some (.int (2 + (i : Nat) * 4)), none, none] = some (sW (seg W i)) := by
      refine iSeq_l ?_
      walk_at "run"
      rw [cut_seg (by omega)]
    have hl3 : (seg W i).length ≤ 3 := by unfold seg; rw [List.length_take]; omega
    have hc : xCompX (iSeq (xSl (xVar 1) (some (x2 dAdd (xVar 3) (xC (.int 1)))) (some (x2 dAdd (xVar 3) (xC (.int 4)))))) [5] (gNm 5) (xCall G_number_of (xCons (xVar 5) xNil)) [some (.str z), some (.list (sW W)), some (.list (lnsD W i)), some (.int (2 + (i : Nat) * 4)), none, none] = some (match numsO (seg W i) with | some ns => .list (ns.map iD) | none => exD) := by
      rw [r_compX hs (by rw [List.length_map]; omega)]
      exact compX_nums fun w hw => (hW.ok w (seg_sub hw)).2
    have hi2 : (lnsD W i).length = i := by unfold lnsD; rw [List.length_map, List.length_range]
    have ha := r_appX (i := 2) (f := x1 dTupX (xCompX (iSeq (xSl (xVar 1) (some (x2 dAdd (xVar 3) (xC (.int 1)))) (some (x2 dAdd (xVar 3) (xC (.int 4)))))) [5] (gNm 5) (xCall G_number_of (xCons (xVar 5) xNil)))) (ρ := [some (.str z), some (.list (sW W)), some (.list (lnsD W i)), some (.int (2 + (i : Nat) * 4)), none, none]) (ds := lnsD W i) rfl
    cases en : numsO (seg W i) with
    | none =>
      rw [if_pos (show (none : Option (List Nat)).isNone = true from rfl)]
      refine Eq.trans ha ?_
      rw [r_1, hc, en]
      rfl
    | some ns =>
      rw [if_neg (show ¬ (some ns).isNone = true from Bool.false_ne_true)]
      refine ⟨_, Eq.trans ha ?_, some (.int (2 + (i : Nat) * 4)), rfl⟩
      rw [r_1, hc, en]
      show (if isEx (.tuple (ns.map iD)) = true then some (Out.rt exD) else if (lnsD W i).length < LIM then some (Out.nx (([some (.str z), some (.list (sW W)), some (.list (lnsD W i)), some (.int (2 + (i : Nat) * 4)), none, none] : Rho).set 2 (some (.list (lnsD W i ++ [.tuple (ns.map iD)]))))) else none) = _
      rw [if_neg (show ¬ isEx (.tuple (ns.map iD)) = true from Bool.false_ne_true), if_pos (by rw [hi2, LIM_eq]; omega)]
      have : lnsD W (i + 1) = lnsD W i ++ [.tuple (ns.map iD)] := by
        unfold lnsD
        rw [List.range_succ, List.map_append]
        show _ ++ [trD (segN W i)] = _
        unfold segN
        rw [en]
        rfl
      rw [this]
      rfl
  rcases k2 with ⟨hb, rfl⟩ | ⟨hb, ρ', rfl, x3, rfl⟩
  · left
    rw [List.any_eq_true] at hb
    obtain ⟨d, hd, hb⟩ := hb
    obtain ⟨k, hk, rfl⟩ := List.mem_map.mp hd
    rw [badR_at] at hb
    exact ⟨⟨k, List.mem_range.mp hk, Option.isNone_iff_eq_none.mp hb⟩, rfl⟩
  · right
    rw [List.length_map, List.length_range]
    refine ⟨fun k hk => ?_, x3, rfl⟩
    rw [List.any_eq_false] at hb
    have := hb _ (List.mem_map.mpr ⟨k, List.mem_range.mpr hk, rfl⟩)
    rw [badR_at] at this
    exact fun z => this (by rw [z]; rfl)
end Tw

set_option Elab.async false
set_option linter.all false
set_option maxRecDepth 100000
set_option maxHeartbeats 1000000
namespace Tw
open PySem PySem.Spec PyProof.Rows L2
local macro_rules | `(tactic| walk_at "run") => `(tactic| simp (disch := (first | omega | (simp only [List.length_map, List.length_append, List.length_cons, List.length_nil, labD_len, rng_lng, cut_len, List.length_drop, List.length_take]; omega))) only [ite_self, at0, at1, at2, isi_tt, isi_tl, isi_ti, isi_ii, isi_it, isi_bb, Bool.not_true, Bool.not_false, Bool.true_or, Bool.false_or, Bool.true_and, Bool.false_and, Bool.and_true, Bool.or_false, Bool.and_false, Bool.or_true, labD_at, r_wipe0, r_wipe1, r_wipe2, r_wipe3, r_appE, appD_l, dAddL', dAddT', ite_or, ite_and, r_run0, r_run1, r_run2, r_run3, r_run4, r_and, r_or, r_if, r_seq, r_1, r_2, r_c, r_call, r_cons, r_nil, r_ret, r_set, r_snil, r_asg, r_on1, r_tup0, r_tup1, r_tup2, r_tup3, r_tup4, r_tup5, r_tup6, r_lst0, r_lst1, r_lst2, r_lst3, r_lst4, r_lst5, r_lst6, r_sl, r_pn, r_ps, r_nm, r_int, r_v0, r_vs, r_rtO,
  andO_b, orO_b, ifO_b, seqO_nx, seqO_rt, seqO_ite, outD_ite, o_bind, o_map, List.map_cons, List.map_nil, List.length_cons, List.length_nil, List.cons_append, List.nil_append, List.set_cons_zero, List.set_cons_succ, Nat.reduceAdd, Nat.reduceSub, Nat.zero_add,
  List.replicate_succ, List.replicate_zero, dAdd_i, dSub_i, dNeg_i, dNot_b, dLt_i, dLe_i, dGt_i, dGe_i, dGeA_i, dMul_i, dMul_j, dDiv_i, dMod_i, dEq_i, dNe_i, dEq_b, dLen_l, dLen_t, dTupOf_l, dTupOf_t, dMin2_i, dMax2_i, dInt1_b, dIx_l, dIx_t, dSl_l, dSl_t, r_gTu2, r_gTu3,
  Bool.false_eq_true, if_true, if_false, eq_self, List.length_map, List.length_replicate])
/-! ### the words of a text: the law's reading -/
def numD (k : Nat) (w : Str) : D := match numW k w with
  | some n => .int (n : Nat)
  | none => .none
theorem nums_some : ∀ {ws : List Str} {ns : List Nat}, numsO ws = some ns → ws.map (numD 4) = ns.map iD
  | [], ns, h => by cases h; rfl
  | w :: r, ns, h => by
    rw [numsO] at h
    cases e1 : numW 4 w with
    | none => rw [e1] at h; cases h
    | some n =>
      cases e2 : numsO r with
      | none => rw [e1, e2] at h; cases h
      | some ms =>
        rw [e1, e2] at h
        cases h
        rw [List.map_cons, List.map_cons, nums_some e2]
        show numD 4 w :: _ = _
        unfold numD
        rw [e1]
theorem numD_flat (k : Nat) (w : Str) : flatD (numD k w) = true := by
  unfold numD
  cases numW k w <;> rfl
theorem numD_non (k : Nat) (w : Str) : PyData.eqv (numD k w) .none = (numW k w).isNone := by
  unfold numD
  cases numW k w <;> simp [PyData.eqv]
theorem any_nums : ∀ ws : List Str, ((ws.map (numD 4)).any fun z => PyData.eqv z .none) = (numsO ws).isNone
  | [] => rfl
  | w :: r => by
    rw [List.map_cons, List.any_cons, any_nums r, numD_non, numsO]
    cases numW 4 w with
    | none => rfl
    | some n =>
      cases numsO r <;> rfl
theorem in_nums (ws : List Str) : dIn false .none (.tuple (ws.map (numD 4))) = some (.bool (numsO ws).isNone) := by
  have h : (ws.map (numD 4)).all flatD = true := by
    rw [List.all_eq_true]
    intro d hd
    obtain ⟨w, _, rfl⟩ := List.mem_map.mp hd
    exact numD_flat 4 w
  show (if _ then _ else _) = _
  rw [if_pos ⟨rfl, h⟩, any_nums, Bool.false_xor]
theorem ok_line : PyData.strOk "line" = true := by decide +kernel
theorem due_lines {z : Str} {W : List Str} (hW : WOk W) (h4 : W.length % 4 = 2) {o : Option Out}
    (e : sFor (iR24 (xC (.int 2)) (xCall (on1 dLen) (g1 (xVar 1))) (xC (.int 4))) (gNm 3)
    (sSeq (sSet 5 (xCall (on1 dTupOf) (g1 (xComp (iSeq (xSl (xVar 1) (some (x2 dAdd (xVar 3) (xC (.int 1)))) (some (x2 dAdd (xVar 3) (xC (.int 4)))))) [6] (gNm 6) xYes (xCall G_l_number_of (xCons (xVar 6) (xCons (xC (.int 4)) xNil)))))))
    (sSeq (sIf (xOr (x2 dNe (x2 dIx (xVar 1) (xVar 3)) (xC (.str "line"))) (x2 (dIn false) (xC .none) (xVar 5))) (sRet (xC .none)) sNil)
    (sSet 2 (x2 dAdd (xVar 2) (xTup (xCons (xVar 5) xNil)))))) [some (.str z), some (.list (sW W)), some (.tuple []), none, none, none, none] = o) :
    ((∃ k < mW W, numsO (seg W k) = none ∨ W[2 + 4 * k]? ≠ some LINE) ∧ o = some (.rt .none)) ∨ ((∀ k < mW W, numsO (seg W k) ≠ none ∧ W[2 + 4 * k]? = some LINE) ∧ ∃ x3 x5, o = some (.nx [some (.str z), some (.list (sW W)), some (.tuple (lnsD W (mW W))), x3, none, x5, none])) := by
  have hl := hW.len
  have hm : 4 * mW W + 2 = W.length := by unfold mW; omega
  have hi : iR24 (xC (.int 2)) (xCall (on1 dLen) (g1 (xVar 1))) (xC (.int 4)) [some (.str z), some (.list (sW W)), some (.tuple []), none, none, none, none] = some ((List.range (mW W)).map fun k => .int (2 + (k : Nat) * 4)) :=
    iR24_i (by walk_at "run") (by walk_at "run") (by walk_at "run") hl
  have k2 := for_some e hi (fun i ρ => ∃ x3 x5, ρ = [some (.str z), some (.list (sW W)), some (.tuple (lnsD W i)), x3, none, x5, none]) .none (badL W) ⟨_, _, rfl⟩ fun i d ρ hd hq => by
    obtain ⟨x3, x5, rfl⟩ := hq
    have hi := (List.getElem?_eq_some_iff.mp hd).1
    rw [List.length_map, List.length_range] at hi
    rw [List.getElem?_map, List.getElem?_range hi] at hd
    obtain rfl : PyData.int (2 + (i : Nat) * 4) = d := Option.some.inj hd
    refine ⟨_, rfl, ?_⟩
    rw [badL_at]
    have hl3 : (seg W i).length ≤ 3 := by unfold seg; rw [List.length_take]; omega
    have hi2 : (lnsD W i).length = i := by unfold lnsD; rw [List.length_map, List.length_range]
    have h2 : 2 + 4 * i < W.length := by omega
    have hw : W[2 + 4 * i]? = some W[2 + 4 * i] := List.getElem?_eq_getElem h2
    have hat : atI (sW W) (2 + (i : Nat) * 4) = some (.str W[2 + 4 * i]) := by
      refine at_n (by omega) ?_
      have : (2 + ((i : Nat) : Int) * 4).toNat = 2 + 4 * i := by omega
      rw [this, List.getElem?_map, hw]
      rfl
    have hso := (hW.ok W[2 + 4 * i] (List.getElem_mem h2)).1
    have hbe : (some W[2 + 4 * i] == some LINE) = (W[2 + 4 * i] == LINE) := rfl
    walk_at "run"
    rw [comp_typed' (seg W i) PyData.str (numD 4) (iSeq_l (by walk_at "run"; rw [cut_seg (by omega)])) (by omega) fun w hw => ⟨_, rfl, by
      walk_at "run"
      exact l_number_run (k := 4) (by decide) (hW.ok w (seg_sub hw)).1 (hW.ok w (seg_sub hw)).2⟩]
    walk_at "run"
    rw [hat]
    walk_at "run"
    rw [dNe_s hso ok_line, in_nums, hw, hbe]
    generalize (W[2 + 4 * i] == LINE) = bl
    cases en : numsO (seg W i) with
    | none =>
      cases bl <;> walk_at "run" <;> rfl
    | some ns =>
      cases bl with
      | false =>
        walk_at "run"
      | true =>
        walk_at "run"
        rw [nums_some en]
        have : lnsD W (i + 1) = lnsD W i ++ [.tuple (ns.map iD)] := by
          unfold lnsD
          rw [List.range_succ, List.map_append]
          show _ ++ [trD (segN W i)] = _
          unfold segN
          rw [en]
          rfl
        rw [this]
        exact ⟨_, rfl, _, _, rfl⟩
  rcases k2 with ⟨hb, rfl⟩ | ⟨hb, ρ', rfl, x3, x5, rfl⟩
  · left
    rw [List.any_eq_true] at hb
    obtain ⟨d, hd, hb⟩ := hb
    obtain ⟨k, hk, rfl⟩ := List.mem_map.mp hd
    rw [badL_at, Bool.or_eq_true] at hb
    refine ⟨⟨k, List.mem_range.mp hk, ?_⟩, rfl⟩
    rcases hb with hb | hb
    · exact .inl (Option.isNone_iff_eq_none.mp hb)
    · exact .inr fun z => by rw [z] at hb; simp at hb
  · right
    rw [List.length_map, List.length_range]
    refine ⟨fun k hk => ?_, x3, x5, rfl⟩
    rw [List.any_eq_false] at hb
    have := hb _ (List.mem_map.mpr ⟨k, List.mem_range.mpr hk, rfl⟩)
    rw [badL_at, Bool.or_eq_true, not_or] at this
    refine ⟨fun z => this.1 (by rw [z]; rfl), ?_⟩
    have h2 := this.2
    simpa using h2
end Tw

set_option Elab.async false
set_option linter.all false
set_option maxRecDepth 100000
set_option maxHeartbeats 1000000
namespace Tw
open PySem PySem.Spec PyProof.Rows L2
local macro_rules | `(tactic| walk_at "run") => `(tactic| simp (disch := (first | omega | (simp only [List.length_map, List.length_append, List.length_cons, List.length_nil, labD_len, rng_lng, cut_len, List.length_drop, List.length_take]; omega))) only [ite_self, at0, at1, at2, isi_tt, isi_tl, isi_ti, isi_ii, isi_it, isi_bb, Bool.not_true, Bool.not_false, Bool.true_or, Bool.false_or, Bool.true_and, Bool.false_and, Bool.and_true, Bool.or_false, Bool.and_false, Bool.or_true, labD_at, r_wipe0, r_wipe1, r_wipe2, r_wipe3, r_appE, appD_l, dAddL', dAddT', ite_or, ite_and, r_run0, r_run1, r_run2, r_run3, r_run4, r_and, r_or, r_if, r_seq, r_1, r_2, r_c, r_call, r_cons, r_nil, r_ret, r_set, r_snil, r_asg, r_on1, r_tup0, r_tup1, r_tup2, r_tup3, r_tup4, r_tup5, r_tup6, r_lst0, r_lst1, r_lst2, r_lst3, r_lst4, r_lst5, r_lst6, r_sl, r_pn, r_ps, r_nm, r_int, r_v0, r_vs, r_rtO,
  andO_b, orO_b, ifO_b, seqO_nx, seqO_rt, seqO_ite, outD_ite, o_bind, o_map, List.map_cons, List.map_nil, List.length_cons, List.length_nil, List.cons_append, List.nil_append, List.set_cons_zero, List.set_cons_succ, Nat.reduceAdd, Nat.reduceSub, Nat.zero_add,
  List.replicate_succ, List.replicate_zero, dAdd_i, dSub_i, dNeg_i, dNot_b, dLt_i, dLe_i, dGt_i, dGe_i, dGeA_i, dMul_i, dMul_j, dDiv_i, dMod_i, dEq_i, dNe_i, dEq_b, dLen_l, dLen_t, dTupOf_l, dTupOf_t, dMin2_i, dMax2_i, dInt1_b, dIx_l, dIx_t, dSl_l, dSl_t, r_gTu2, r_gTu3,
  Bool.false_eq_true, if_true, if_false, eq_self, List.length_map, List.length_replicate])
/-! ### texts: split and joined -/
abbrev SP : Str := " "
theorem sp_tl : TL.tl SP = [32] := by decide +kernel
theorem sp_len : Str.length SP = 1 := by decide +kernel
def wt (ws : List Str) : Nat := (ws.map fun w => w.length + 1).sum
theorem wt_nil : wt [] = 0 := rfl
theorem wt_cons (w : Str) (r : List Str) : wt (w :: r) = w.length + 1 + wt r := by unfold wt; rw [List.map_cons, List.sum_cons]
theorem wt_app : ∀ a b : List Str, wt (a ++ b) = wt a + wt b
  | [], b => by rw [List.nil_append, wt_nil, Nat.zero_add]
  | w :: r, b => by rw [List.cons_append, wt_cons, wt_cons, wt_app r b]; omega
theorem wt_len : ∀ a : List Str, a.length ≤ wt a
  | [] => Nat.le_refl _
  | w :: r => by rw [wt_cons, List.length_cons]; have := wt_len r; omega
theorem wt_mem : ∀ {a : List Str} {w : Str}, w ∈ a → w.length + 1 ≤ wt a
  | v :: r, w, h => by
    rw [wt_cons]
    rcases List.mem_cons.mp h with rfl | h
    · omega
    · have := wt_mem h; omega
theorem wt_take (a : List Str) (i : Nat) : wt (a.take i) + wt (a.drop i) = wt a := by rw [← wt_app, List.take_append_drop]
theorem wt_cut (a : List Str) (i j : Nat) : wt ((a.drop i).take j) ≤ wt a := by
  have h1 := wt_take a i
  have h2 := wt_take (a.drop i) j
  omega
theorem joinL_len : ∀ {ps : List Str}, ps ≠ [] → (TL.joinL [32] (ps.map TL.tl)).length + 1 = wt ps
  | [], h => absurd rfl h
  | [p], _ => by
    show (TL.tl p).length + 1 = wt [p]
    rw [wt_cons, wt_nil, TL.len_tl]
  | p :: q :: r, _ => by
    have ih := joinL_len (ps := q :: r) (by simp)
    show (TL.tl p ++ ([32] ++ TL.joinL [32] ((q :: r).map TL.tl))).length + 1 = _
    rw [wt_cons, List.length_append, List.length_append, TL.len_tl, ← ih]
    simp only [List.length_cons, List.length_nil]
    omega
theorem joinL_mem : ∀ {ps : List Str} {c : Nat}, (c ∈ TL.joinL [32] (ps.map TL.tl) ↔ (∃ p ∈ ps, c ∈ TL.tl p) ∨ (c = 32 ∧ 2 ≤ ps.length))
  | [], c => by simp [TL.joinL]
  | [p], c => by simp [TL.joinL]
  | p :: q :: r, c => by
    have ih := joinL_mem (ps := q :: r) (c := c)
    show c ∈ TL.tl p ++ ([32] ++ TL.joinL [32] ((q :: r).map TL.tl)) ↔ _
    rw [List.mem_append, List.mem_append, ih]
    simp only [List.mem_cons, List.mem_singleton, List.not_mem_nil, or_false, List.length_cons]
    constructor
    · rintro (h | h | ⟨x, h, hx⟩ | ⟨h, _⟩)
      · exact .inl ⟨p, .inl rfl, h⟩
      · exact .inr ⟨h, by omega⟩
      · exact .inl ⟨x, .inr h, hx⟩
      · exact .inr ⟨h, by omega⟩
    · rintro (⟨x, rfl | h, hx⟩ | ⟨h, _⟩)
      · exact .inl hx
      · exact .inr (.inr (.inl ⟨x, h, hx⟩))
      · exact .inr (.inl h)
theorem strOk_iff {z : Str} : PyData.strOk z = true ↔ ∀ c ∈ TL.tl z, c < 0x110000 := by
  unfold PyData.strOk
  rw [Array.all_eq_true']
  constructor
  · intro h c hc
    simpa using h c (Array.mem_def.mpr hc)
  · intro h c hc
    simpa using h c (Array.mem_def.mp hc)
/-- the words of a text -/
structure Words (L : Nat) (ws : List Str) : Prop where
  ok : ∀ w ∈ ws, PyData.strOk w = true
  wt : wt ws ≤ L
theorem split_ne {z : Str} : Txt.split z SP ≠ [] ∨ z = Str.empty := by
  by_cases h : Txt.split z SP = []
  · right
    have := PySem.StrLaws.join_split z SP
    rw [h] at this
    exact this.symm
  · exact .inl h
theorem split_words {z : Str} {L : Nat} (hs : PyData.strOk z = true) (hl : z.length ≤ L) : Words (L + 1) (Txt.split z SP) := by
  have e := PySem.StrLaws.join_split z SP
  have e2 := TL.tl_join SP (Txt.split z SP)
  rw [e, sp_tl] at e2
  refine ⟨fun w hw => strOk_iff.mpr fun c hc => strOk_iff.mp hs c ?_, ?_⟩
  · rw [e2]
    exact joinL_mem.mpr (.inl ⟨w, hw, hc⟩)
  · by_cases hn : Txt.split z SP = []
    · rw [hn]
      exact Nat.zero_le _
    · have h3 := joinL_len hn
      rw [← e2, ← TL.len_tl] at h3
      omega
/-- a text of so many signs at most -/
structure TOk (L : Nat) (z : Str) : Prop where
  ok : PyData.strOk z = true
  len : z.length ≤ L
theorem TOk.mono {L M : Nat} {z : Str} (h : TOk L z) (hm : L ≤ M) : TOk M z := ⟨h.ok, Nat.le_trans h.len hm⟩
theorem split_run {L : Nat} {z : Str} (h : TOk L z) (hL : L ≤ 100000) : dSplit SP (.str z) = some (.list (sW (Txt.split z SP))) := by
  have hw := split_words h.ok h.len
  have h1 := wt_len (Txt.split z SP)
  have h2 := hw.wt
  have h3 := h.len
  show (if _ then _ else _) = _
  rw [if_pos ⟨by omega, by show _ ≤ 1000000; omega⟩]
theorem split_wok {L : Nat} {z : Str} (h : TOk L z) (hL : L ≤ 100000) : WOk (Txt.split z SP) := by
  have hw := split_words h.ok h.len
  have h1 := wt_len (Txt.split z SP)
  have h2 := hw.wt
  refine ⟨fun w hm => ⟨hw.ok w hm, ?_⟩, by omega⟩
  have := wt_mem hm
  omega
theorem join_ok {L : Nat} {ws : List Str} (h : Words L ws) : TOk L (Txt.join SP ws) := by
  have e2 := TL.tl_join SP ws
  rw [sp_tl] at e2
  rw [TL.join_eq]
  refine ⟨strOk_iff.mpr fun c hc => ?_, ?_⟩
  · rw [e2] at hc
    rcases joinL_mem.mp hc with ⟨p, hp, hc⟩ | ⟨rfl, _⟩
    · exact strOk_iff.mp (h.ok p hp) c hc
    · decide
  · rw [TL.len_tl, e2]
    by_cases hn : ws = []
    · subst hn
      exact Nat.zero_le _
    · have := joinL_len hn
      have := h.wt
      omega
theorem join_run {L : Nat} {ws : List Str} (h : Words L ws) (hL : L ≤ 1000000) : dJoin (.str SP) (.list (sW ws)) = some (.str (Txt.join SP ws)) := by
  show (strsOf (sW ws)).bind _ = _
  rw [strsOf_map, o_bind]
  refine if_pos ?_
  rw [sp_len, Nat.mul_one]
  have : (ws.map (·.length)).sum + ws.length = wt ws := by
    clear h hL
    induction ws with
    | nil => rfl
    | cons w r ih =>
      rw [wt_cons, ← ih, List.map_cons, List.sum_cons, List.length_cons]
      omega
  rw [this]
  have := h.wt
  omega
/-- the words of a ground's text -/
theorem num_tl (n : Nat) : TL.tl (sNum (n : Nat)) = TL.numL n := TL.tl_num n
theorem num_free {i : Int} (h : 0 ≤ i) : 32 ∉ TL.tl (sNum i) := by
  obtain ⟨n, rfl⟩ := Int.eq_ofNat_of_zero_le h
  rw [num_tl]
  exact TL.numL_free (.inl (by omega))
theorem gr_split {n : Nat} {ls : List Ln} (h : ∀ l ∈ ls, LnOk n l) : Txt.split (grT n ls) SP = grW n ls := by
  unfold grT
  refine TL.split_join (s := 32) (S := []) sp_tl (by decide +kernel) (grW_ne n ls) fun p hp => ?_
  unfold grW at hp
  rcases List.mem_append.mp hp with hp | hp
  · simp only [List.mem_cons, List.not_mem_nil, or_false] at hp
    rcases hp with rfl | rfl
    · decide +kernel
    · exact num_free (by omega)
  · obtain ⟨ws, hws, hp⟩ := List.mem_flatten.mp hp
    obtain ⟨l, hl, rfl⟩ := List.mem_map.mp hws
    have hk := h l hl
    unfold LnOk at hk
    unfold lnW at hp
    simp only [List.mem_cons, List.not_mem_nil, or_false] at hp
    rcases hp with rfl | rfl | rfl | rfl
    · decide +kernel
    · exact num_free (by omega)
    · exact num_free (by omega)
    · exact num_free (by omega)
theorem num_one {n : Nat} (h : n ≤ 7) : (sNum (n : Nat)).length = 1 := by
  rw [TL.len_tl, num_tl, TL.numL_lt (by omega)]
  rfl
end Tw

set_option Elab.async false
set_option linter.all false
set_option maxRecDepth 100000
set_option maxHeartbeats 1000000
namespace Tw
open PySem PySem.Spec PyProof.Rows L2
local macro_rules | `(tactic| walk_at "run") => `(tactic| simp (disch := (first | omega | (simp only [List.length_map, List.length_append, List.length_cons, List.length_nil, labD_len, rng_lng, cut_len, List.length_drop, List.length_take]; omega))) only [ite_self, at0, at1, at2, isi_tt, isi_tl, isi_ti, isi_ii, isi_it, isi_bb, Bool.not_true, Bool.not_false, Bool.true_or, Bool.false_or, Bool.true_and, Bool.false_and, Bool.and_true, Bool.or_false, Bool.and_false, Bool.or_true, labD_at, r_wipe0, r_wipe1, r_wipe2, r_wipe3, r_appE, appD_l, dAddL', dAddT', ite_or, ite_and, r_run0, r_run1, r_run2, r_run3, r_run4, r_and, r_or, r_if, r_seq, r_1, r_2, r_c, r_call, r_cons, r_nil, r_ret, r_set, r_snil, r_asg, r_on1, r_tup0, r_tup1, r_tup2, r_tup3, r_tup4, r_tup5, r_tup6, r_lst0, r_lst1, r_lst2, r_lst3, r_lst4, r_lst5, r_lst6, r_sl, r_pn, r_ps, r_nm, r_int, r_v0, r_vs, r_rtO,
  andO_b, orO_b, ifO_b, seqO_nx, seqO_rt, seqO_ite, outD_ite, o_bind, o_map, List.map_cons, List.map_nil, List.length_cons, List.length_nil, List.cons_append, List.nil_append, List.set_cons_zero, List.set_cons_succ, Nat.reduceAdd, Nat.reduceSub, Nat.zero_add,
  List.replicate_succ, List.replicate_zero, dAdd_i, dSub_i, dNeg_i, dNot_b, dLt_i, dLe_i, dGt_i, dGe_i, dGeA_i, dMul_i, dMul_j, dDiv_i, dMod_i, dEq_i, dNe_i, dEq_b, dLen_l, dLen_t, dTupOf_l, dTupOf_t, dMin2_i, dMax2_i, dInt1_b, dIx_l, dIx_t, dSl_l, dSl_t, r_gTu2, r_gTu3,
  Bool.false_eq_true, if_true, if_false, eq_self, List.length_map, List.length_replicate])
/-! ### read and the law's reading agree -/
theorem isi_ss (z : Str) : dIsi .str (.str z) = some (.bool true) := Eq.trans rfl rfl
theorem r_sEx' (ρ : Rho) : sEx ρ = some (.rt exD) := Eq.trans rfl rfl
abbrev SPOTS : Str := "spots"
theorem ok_spots : PyData.strOk SPOTS = true := by decide +kernel
theorem ix_words {W : List Str} {i : Nat} (h : i < W.length) : atI (sW W) (i : Int) = some (.str W[i]) := by
  refine at_n (by omega) ?_
  rw [Int.toNat_natCast, List.getElem?_map, List.getElem?_eq_getElem h]
  rfl
theorem ix_words0 {W : List Str} (h : 0 < W.length) : atI (sW W) 0 = some (.str W[0]) := ix_words (i := 0) h
theorem ix_words1 {W : List Str} (h : 1 < W.length) : atI (sW W) 1 = some (.str W[1]) := ix_words (i := 1) h
def lineOk (W : List Str) : Bool := (pick24 W).all (· == LINE)
theorem pick_sub {W : List Str} {w : Str} (h : w ∈ pick24 W) : w ∈ W := by
  unfold pick24 at h
  obtain ⟨k, _, hk⟩ := List.mem_filterMap.mp h
  exact List.mem_of_getElem? hk
theorem line_ok {W : List Str} (h4 : W.length % 4 = 2) : lineOk W = true ↔ ∀ k < mW W, W[2 + 4 * k]? = some LINE := by
  unfold lineOk
  rw [List.all_eq_true]
  constructor
  · intro h k hk
    have h2 : 2 + 4 * k < W.length := by unfold mW at hk; omega
    rw [List.getElem?_eq_getElem h2]
    have : W[2 + 4 * k] ∈ pick24 W := by
      unfold pick24
      exact List.mem_filterMap.mpr ⟨k, List.mem_range.mpr hk, List.getElem?_eq_getElem h2⟩
    have := h _ this
    rw [beq_iff_eq] at this
    rw [this]
  · intro h w hw
    unfold pick24 at hw
    obtain ⟨k, hk, e⟩ := List.mem_filterMap.mp hw
    rw [h k (List.mem_range.mp hk)] at e
    cases e
    exact beq_self_eq_true _
/-- the text is of the right build -/
def goodW (W : List Str) : Prop := ∀ k < mW W, numsO (seg W k) ≠ none ∧ W[2 + 4 * k]? = some LINE
theorem read_head {z : Str} {W : List Str} (hs : dSplit SP (.str z) = some (.list (sW W))) (hW : WOk W) (hb : ¬ (W.length % 4 = 2 ∧ W[0]? = some SPOTS)) : G_read [.str z] = some exD ∧ G_l_due [.str z] = some .none := by
  unfold G_read b_read G_l_due b_l_due
  by_cases c4 : W.length % 4 = 2
  · have h0 : 0 < W.length := by omega
    have hne : (W[0] == SPOTS) = false := by
      rw [beq_eq_false_iff_ne]
      intro e
      exact hb ⟨c4, by rw [List.getElem?_eq_getElem h0, e]⟩
    constructor
    · walk_at "run"
      rw [isi_ss]
      walk_at "run"
      rw [hs]
      walk_at "run"
      rw [decide_eq_true (show (W.length : Int) % 4 = 2 by omega)]
      walk_at "run"
      rw [ix_words0 h0]
      walk_at "run"
      rw [dNe_s (hW.ok _ (List.getElem_mem h0)).1 ok_spots, hne]
      walk_at "run"
      rw [r_sEx']
      walk_at "run"
    · walk_at "run"
      rw [hs]
      walk_at "run"
      rw [decide_eq_true (show (W.length : Int) % 4 = 2 by omega)]
      walk_at "run"
      rw [ix_words0 h0]
      walk_at "run"
      rw [dNe_s (hW.ok _ (List.getElem_mem h0)).1 ok_spots, hne]
      walk_at "run"
  · constructor
    · walk_at "run"
      rw [isi_ss]
      walk_at "run"
      rw [hs]
      walk_at "run"
      rw [decide_eq_false (show ¬ (W.length : Int) % 4 = 2 by omega)]
      walk_at "run"
      rw [r_sEx']
      walk_at "run"
    · walk_at "run"
      rw [hs]
      walk_at "run"
      rw [decide_eq_false (show ¬ (W.length : Int) % 4 = 2 by omega)]
      walk_at "run"
theorem r_setX (i : Nat) (f : Ex) (ρ : Rho) : sSetX i f ρ = (f ρ).map fun d => if isEx d = true then .rt exD else .nx (ρ.set i (some d)) := Eq.trans rfl rfl
theorem r_tupX (fa fb : Ex) (ρ : Rho) : xTupX fa fb ρ = (fa ρ).bind fun x => if isEx x = true then some exD else (fb ρ).bind fun y => some (.tuple [x, y]) := Eq.trans rfl rfl
theorem isEx_x : isEx exD = true := Eq.trans rfl rfl
theorem isEx_i (i : Int) : isEx (.int i) = false := Eq.trans rfl rfl
theorem isEx_t (ds : List D) : isEx (.tuple ds) = false := Eq.trans rfl rfl
section
variable {z : Str} {W : List Str}
def fndD (W : List Str) (v : Nat) : D := .tuple [.int (v : Nat), .tuple (lnsD W (mW W))]
theorem dPick_w (W : List Str) : dPick (.list (sW W)) = some (.list (sW (pick24 W))) := by
  show some (PyData.list (pick24 (sW W))) = _
  rw [pick24_map]
theorem read_main (hs : dSplit SP (.str z) = some (.list (sW W))) (hW : WOk W) (h4 : W.length % 4 = 2) (hsp : W[0]? = some SPOTS) (hz : PyData.strOk z = true) (h1 : 1 < W.length) :
    (¬ goodW W → G_read [.str z] = some exD) ∧ (goodW W → (numW 4 W[1] = none → G_read [.str z] = some exD) ∧ ∀ v, numW 4 W[1] = some v →
      (G_is_ground [fndD W v] = some (.bool false) → G_read [.str z] = some exD) ∧ (G_is_ground [fndD W v] = some (.bool true) → ∀ t, G_ground_text [fndD W v] = some (.str t) → PyData.strOk t = true → G_read [.str z] = some (if t = z then fndD W v else exD))) := by
  have h0 : 0 < W.length := by omega
  have e0 : W[0] = SPOTS := by
    rw [List.getElem?_eq_getElem h0] at hsp
    exact Option.some.inj hsp
  have hl := hW.len
  have pre : G_read [.str z] = if lineOk W = true then outD (seqO (sFor (iR24 (xC (.int 2)) (xCall (on1 dLen) (g1 (xVar 1))) (xC (.int 4))) (gNm 3) (sAppX 2 (x1 dTupX (xCompX (iSeq (xSl (xVar 1) (some (x2 dAdd (xVar 3) (xC (.int 1)))) (some (x2 dAdd (xVar 3) (xC (.int 4)))))) [5] (gNm 5) (xCall G_number_of (xCons (xVar 5) xNil))))) [some (.str z), some (.list (sW W)), some (.list []), none, none, none])
      (sSeq (sSetX 4 (xTupX (xCall G_number_of (xCons (x2 dIx (xVar 1) (xC (.int 1))) xNil)) (xCall (on1 dTupOf) (g1 (xVar 2)))))
    (sSeq (sIf (xOr (x1 dNot (xCall G_is_ground (xCons (xVar 4) xNil))) (x2 dNe (xCall G_ground_text (xCons (xVar 4) xNil)) (xVar 0))) sEx sNil)
    (sRet (xVar 4))))) else some exD := by
    unfold G_read b_read
    walk_at "run"
    rw [isi_ss]
    walk_at "run"
    rw [hs]
    walk_at "run"
    rw [decide_eq_true (show (W.length : Int) % 4 = 2 by omega)]
    walk_at "run"
    rw [ix_words0 h0]
    walk_at "run"
    rw [dNe_s (hW.ok _ (List.getElem_mem h0)).1 ok_spots, e0, beq_self_eq_true]
    walk_at "run"
    rw [comp_typed' (pick24 W) PyData.str (fun w => .bool (w == LINE)) (iSeq_l (by walk_at "run"; rw [dPick_w])) (Nat.le_trans (pick24_le W) (by omega)) fun w hw => ⟨_, rfl, by
      walk_at "run"
      exact dEq_s (hW.ok w (pick_sub hw)).1 ok_line⟩]
    walk_at "run"
    rw [dAll_map]
    show _ = if lineOk W = true then _ else _
    have : (pick24 W).all (fun w => w == LINE) = lineOk W := rfl
    rw [this]
    cases lineOk W with
    | true => walk_at "run"
    | false =>
      walk_at "run"
      rw [r_sEx']
      walk_at "run"
  generalize e : sFor _ _ _ _ = o at pre
  rcases lines_run hW h4 e with ⟨⟨k, hk, hn⟩, rfl⟩ | ⟨hn, x3, rfl⟩
  · have e2 : G_read [.str z] = some exD := by
      rw [pre, seqO_rt]
      split <;> rfl
    exact ⟨fun _ => e2, fun hg => absurd hn (hg k hk).1⟩
  · by_cases cl : lineOk W = true
    case neg =>
      have e2 : G_read [.str z] = some exD := by rw [pre, if_neg cl]
      exact ⟨fun _ => e2, fun hg => absurd ((line_ok h4).mpr fun k hk => (hg k hk).2) cl⟩
    rw [if_pos cl] at pre
    refine ⟨fun hb => absurd (fun k hk => ⟨hn k hk, (line_ok h4).mp cl k hk⟩) hb, fun hg => ⟨fun hv => ?_, fun v hv => ⟨fun hf => ?_, fun ht t htx hto => ?_⟩⟩⟩
    all_goals
      rw [pre]
      clear pre
      walk_at "run"
      rw [r_setX, r_tupX]
      walk_at "run"
      rw [ix_words1 h1]
      walk_at "run"
      rw [number_run (hW.ok _ (List.getElem_mem h1)).2, hv]
      walk_at "run"
    · rw [isEx_x]
      walk_at "run"
      rw [isEx_x]
      walk_at "run"
    · rw [isEx_i]
      walk_at "run"
      rw [isEx_t]
      walk_at "run"
      have : G_is_ground [.tuple [.int (v : Nat), .tuple (lnsD W (mW W))]] = some (.bool false) := hf
      rw [this]
      walk_at "run"
      rw [r_sEx']
      walk_at "run"
    · rw [isEx_i]
      walk_at "run"
      rw [isEx_t]
      walk_at "run"
      have q1 : G_is_ground [.tuple [.int (v : Nat), .tuple (lnsD W (mW W))]] = some (.bool true) := ht
      have q2 : G_ground_text [.tuple [.int (v : Nat), .tuple (lnsD W (mW W))]] = some (.str t) := htx
      rw [q1]
      walk_at "run"
      rw [q2]
      walk_at "run"
      rw [dNe_s hto hz]
      walk_at "run"
      by_cases c : t = z
      · rw [if_pos c, c, beq_self_eq_true]
        walk_at "run"
        rfl
      · rw [if_neg c, beq_eq_false_iff_ne.mpr c]
        walk_at "run"
        rw [r_sEx']
        walk_at "run"
end
end Tw

set_option Elab.async false
set_option linter.all false
set_option maxRecDepth 100000
set_option maxHeartbeats 1000000
namespace Tw
open PySem PySem.Spec PyProof.Rows L2
local macro_rules | `(tactic| walk_at "run") => `(tactic| simp (disch := (first | omega | (simp only [List.length_map, List.length_append, List.length_cons, List.length_nil, labD_len, rng_lng, cut_len, List.length_drop, List.length_take]; omega))) only [ite_self, at0, at1, at2, isi_tt, isi_tl, isi_ti, isi_ii, isi_it, isi_bb, Bool.not_true, Bool.not_false, Bool.true_or, Bool.false_or, Bool.true_and, Bool.false_and, Bool.and_true, Bool.or_false, Bool.and_false, Bool.or_true, labD_at, r_wipe0, r_wipe1, r_wipe2, r_wipe3, r_appE, appD_l, dAddL', dAddT', ite_or, ite_and, r_run0, r_run1, r_run2, r_run3, r_run4, r_and, r_or, r_if, r_seq, r_1, r_2, r_c, r_call, r_cons, r_nil, r_ret, r_set, r_snil, r_asg, r_on1, r_tup0, r_tup1, r_tup2, r_tup3, r_tup4, r_tup5, r_tup6, r_lst0, r_lst1, r_lst2, r_lst3, r_lst4, r_lst5, r_lst6, r_sl, r_pn, r_ps, r_nm, r_int, r_v0, r_vs, r_rtO,
  andO_b, orO_b, ifO_b, seqO_nx, seqO_rt, seqO_ite, outD_ite, o_bind, o_map, List.map_cons, List.map_nil, List.length_cons, List.length_nil, List.cons_append, List.nil_append, List.set_cons_zero, List.set_cons_succ, Nat.reduceAdd, Nat.reduceSub, Nat.zero_add,
  List.replicate_succ, List.replicate_zero, dAdd_i, dSub_i, dNeg_i, dNot_b, dLt_i, dLe_i, dGt_i, dGe_i, dGeA_i, dMul_i, dMul_j, dDiv_i, dMod_i, dEq_i, dNe_i, dEq_b, dLen_l, dLen_t, dTupOf_l, dTupOf_t, dMin2_i, dMax2_i, dInt1_b, dIx_l, dIx_t, dSl_l, dSl_t, r_gTu2, r_gTu3,
  Bool.false_eq_true, if_true, if_false, eq_self, List.length_map, List.length_replicate])
/-! ### the law's reading; both agree -/
section
variable {z : Str} {W : List Str}
def dueD (W : List Str) (w : Str) : D := .tuple [numD 1 w, .tuple (lnsD W (mW W))]
theorem due_main (hs : dSplit SP (.str z) = some (.list (sW W))) (hW : WOk W) (h4 : W.length % 4 = 2) (hsp : W[0]? = some SPOTS) (hz : PyData.strOk z = true) (h1 : 1 < W.length) :
    (¬ goodW W → G_l_due [.str z] = some .none) ∧ (goodW W →
      (G_l_is_ground [dueD W W[1]] = some (.bool false) → G_l_due [.str z] = some .none) ∧ (G_l_is_ground [dueD W W[1]] = some (.bool true) → ∀ t, G_l_written [dueD W W[1]] = some (.str t) → PyData.strOk t = true → G_l_due [.str z] = some (if t = z then dueD W W[1] else .none))) := by
  have h0 : 0 < W.length := by omega
  have e0 : W[0] = SPOTS := by
    rw [List.getElem?_eq_getElem h0] at hsp
    exact Option.some.inj hsp
  have hl := hW.len
  have pre : G_l_due [.str z] = outD (seqO (sFor (iR24 (xC (.int 2)) (xCall (on1 dLen) (g1 (xVar 1))) (xC (.int 4))) (gNm 3)
    (sSeq (sSet 5 (xCall (on1 dTupOf) (g1 (xComp (iSeq (xSl (xVar 1) (some (x2 dAdd (xVar 3) (xC (.int 1)))) (some (x2 dAdd (xVar 3) (xC (.int 4)))))) [6] (gNm 6) xYes (xCall G_l_number_of (xCons (xVar 6) (xCons (xC (.int 4)) xNil)))))))
    (sSeq (sIf (xOr (x2 dNe (x2 dIx (xVar 1) (xVar 3)) (xC (.str "line"))) (x2 (dIn false) (xC .none) (xVar 5))) (sRet (xC .none)) sNil)
    (sSet 2 (x2 dAdd (xVar 2) (xTup (xCons (xVar 5) xNil)))))) [some (.str z), some (.list (sW W)), some (.tuple []), none, none, none, none])
    (sSeq (sSet 4 (xTup (xCons (xCall G_l_number_of (xCons (x2 dIx (xVar 1) (xC (.int 1))) (xCons (xC (.int 1)) xNil))) (xCons (xVar 2) xNil))))
    (sSeq (sIf (xOr (x1 dNot (xCall G_l_is_ground (xCons (xVar 4) xNil))) (x2 dNe (xCall G_l_written (xCons (xVar 4) xNil)) (xVar 0))) (sRet (xC .none)) sNil)
    (sRet (xVar 4))))) := by
    unfold G_l_due b_l_due
    walk_at "run"
    rw [hs]
    walk_at "run"
    rw [decide_eq_true (show (W.length : Int) % 4 = 2 by omega)]
    walk_at "run"
    rw [ix_words0 h0]
    walk_at "run"
    rw [dNe_s (hW.ok _ (List.getElem_mem h0)).1 ok_spots, e0, beq_self_eq_true]
    walk_at "run"
  generalize e : sFor _ _ _ _ = o at pre
  rcases due_lines hW h4 e with ⟨⟨k, hk, hn⟩, rfl⟩ | ⟨hn, x3, x5, rfl⟩
  · have e2 : G_l_due [.str z] = some .none := by
      rw [pre, seqO_rt]
      rfl
    refine ⟨fun _ => e2, fun hg => ?_⟩
    rcases hn with hn | hn
    · exact absurd hn (hg k hk).1
    · exact absurd (hg k hk).2 hn
  · refine ⟨fun hb => absurd hn hb, fun hg => ⟨fun hf => ?_, fun ht t htx hto => ?_⟩⟩
    all_goals
      rw [pre]
      clear pre
      walk_at "run"
      rw [ix_words1 h1]
      walk_at "run"
      have qn : G_l_number_of [.str W[1], .int 1] = some (numD 1 W[1]) := l_number_run (k := 1) (by decide) (hW.ok _ (List.getElem_mem h1)).1 (hW.ok _ (List.getElem_mem h1)).2
      rw [qn]
      walk_at "run"
    · have : G_l_is_ground [.tuple [numD 1 W[1], .tuple (lnsD W (mW W))]] = some (.bool false) := hf
      rw [this]
      walk_at "run"
    · have q1 : G_l_is_ground [.tuple [numD 1 W[1], .tuple (lnsD W (mW W))]] = some (.bool true) := ht
      have q2 : G_l_written [.tuple [numD 1 W[1], .tuple (lnsD W (mW W))]] = some (.str t) := htx
      rw [q1]
      walk_at "run"
      rw [q2]
      walk_at "run"
      rw [dNe_s hto hz]
      walk_at "run"
      by_cases c : t = z
      · rw [if_pos c, c, beq_self_eq_true]
        walk_at "run"
        rfl
      · rw [if_neg c, beq_eq_false_iff_ne.mpr c]
        walk_at "run"
end
theorem nums_lt : ∀ {ws : List Str} {ns : List Nat}, numsO ws = some ns → ns.length = ws.length ∧ ∀ n ∈ ns, n < 10000
  | [], ns, h => by cases h; exact ⟨rfl, fun n hn => by cases hn⟩
  | w :: r, ns, h => by
    rw [numsO] at h
    cases e1 : numW 4 w with
    | none => rw [e1] at h; cases h
    | some n =>
      cases e2 : numsO r with
      | none => rw [e1, e2] at h; cases h
      | some ms =>
        rw [e1, e2] at h
        cases h
        obtain ⟨h1, h2⟩ := nums_lt e2
        refine ⟨by rw [List.length_cons, List.length_cons, h1], fun m hm => ?_⟩
        rcases List.mem_cons.mp hm with rfl | hm
        · exact numW_lt (by omega) e1
        · exact h2 m hm
theorem lns_gd {W : List Str} (hW : WOk W) : Gd 1000000 10000 2 (.tuple (lnsD W (mW W))) := by
  have hl := hW.len
  refine .inr ⟨_, .inr rfl, ?_, fun x hx => ?_⟩
  · unfold lnsD mW
    rw [List.length_map, List.length_range]
    omega
  · obtain ⟨k, _, rfl⟩ := List.mem_map.mp hx
    have h : (segN W k).length ≤ 3 ∧ ∀ n ∈ segN W k, n < 10000 := by
      unfold segN
      cases e : numsO (seg W k) with
      | none => exact ⟨Nat.zero_le _, fun n hn => by cases hn⟩
      | some ns =>
        obtain ⟨h1, h2⟩ := nums_lt e
        have : (seg W k).length ≤ 3 := by unfold seg; rw [List.length_take]; omega
        exact ⟨by show ns.length ≤ 3; omega, h2⟩
    refine .inr ⟨_, .inr rfl, by rw [List.length_map]; omega, fun y hy => ?_⟩
    obtain ⟨n, hn, rfl⟩ := List.mem_map.mp hy
    have := h.2 n hn
    show ((n : Nat) : Int).natAbs ≤ 10000
    omega
theorem fnd_gd {W : List Str} (hW : WOk W) {d : D} (hd : Gd 1000000 10000 0 d) : Gd 1000000 10000 8 (.tuple [d, .tuple (lnsD W (mW W))]) := by
  refine (show Gd 1000000 10000 3 _ from .inr ⟨_, .inr rfl, by simp, fun x hx => ?_⟩).mono (Nat.le_refl _) (Nat.le_refl _) (by omega)
  simp only [List.mem_cons, List.not_mem_nil, or_false] at hx
  rcases hx with rfl | rfl
  · exact hd.mono (Nat.le_refl _) (Nat.le_refl _) (by omega)
  · exact lns_gd hW
/-- read and the law's reading -/
theorem read_agree {L : Nat} {z : Str} (h : TOk L z) (hL : L ≤ 100000) : (G_read [.str z] = some exD ∧ G_l_due [.str z] = some .none) ∨
    ∃ n ls, G_read [.str z] = some (dGr n ls) ∧ G_l_due [.str z] = some (dGr n ls) ∧ G_l_is_ground [dGr n ls] = some (.bool true) := by
  have hs := split_run h hL
  have hW := split_wok h hL
  generalize hWe : Txt.split z SP = W at hs hW
  by_cases hb : W.length % 4 = 2 ∧ W[0]? = some SPOTS
  case neg => exact .inl (read_head hs hW hb)
  obtain ⟨h4, hsp⟩ := hb
  have h1 : 1 < W.length := by omega
  obtain ⟨a1, a2⟩ := read_main hs hW h4 hsp h.ok h1
  obtain ⟨b1, b2⟩ := due_main hs hW h4 hsp h.ok h1
  by_cases hg : goodW W
  case neg => exact .inl ⟨a1 hg, b1 hg⟩
  replace a2 := a2 hg
  replace b2 := b2 hg
  clear a1 b1
  -- a first word that is no number of one figure
  have noNum : numW 1 W[1] = none → G_l_due [.str z] = some .none := fun hn => by
    have e : dueD W W[1] = .tuple [.none, .tuple (lnsD W (mW W))] := by
      unfold dueD numD
      rw [hn]
    obtain ⟨b, g1, g2⟩ := is_ground_run (fnd_gd hW (d := .none) trivial)
    cases b with
    | false => exact b2.1 (by rw [e]; exact g2)
    | true =>
      obtain ⟨n, ls, e3, _⟩ := ground_is (fnd_gd hW (d := .none) trivial) g1
      cases e3
  cases hv : numW 4 W[1] with
  | none =>
    refine .inl ⟨a2.1 hv, noNum ?_⟩
    unfold numW at hv ⊢
    split at hv
    · cases hv
    · rename_i c
      exact if_neg fun q => c ⟨⟨q.1.1, by omega⟩, q.2⟩
  | some v =>
    have hv4 := numW_lt (by omega) hv
    replace a2 := a2.2 v hv
    have gd : Gd 1000000 10000 8 (fndD W v) := fnd_gd hW (show ((v : Nat) : Int).natAbs ≤ 10000 by omega)
    obtain ⟨b, g1, g2⟩ := is_ground_run gd
    by_cases hl : W[1].length = 1
    · have h11 : numW 1 W[1] = some v := by
        unfold numW at hv ⊢
        split at hv
        · rename_i c
          rw [if_pos ⟨⟨c.1.1, by omega⟩, c.2⟩]
          exact hv
        · cases hv
      have e : dueD W W[1] = fndD W v := by
        unfold dueD fndD numD
        rw [h11]
      rw [e] at b2
      cases b with
      | false => exact .inl ⟨a2.1 g1, b2.1 g2⟩
      | true =>
        obtain ⟨n, ls, e3, k1, k2, k3, k4⟩ := ground_is gd g1
        rw [e3] at a2 b2 g1 g2
        have r1 := a2.2 g1 _ (text_run k2 k3 k4) (grT_ok n ls)
        have r2 := b2.2 g2 _ (l_text_run k2 k3 k4) (grT_ok n ls)
        by_cases c : grT n ls = z
        · rw [if_pos c] at r1 r2
          exact .inr ⟨n, ls, r1, r2, g2⟩
        · rw [if_neg c] at r1 r2
          exact .inl ⟨r1, r2⟩
    · have hn : numW 1 W[1] = none := if_neg fun q => hl (by omega)
      refine .inl ⟨?_, noNum hn⟩
      cases b with
      | false => exact a2.1 g1
      | true =>
        obtain ⟨n, ls, e3, k1, k2, k3, k4⟩ := ground_is gd g1
        rw [e3] at a2 g1
        have r1 := a2.2 g1 _ (text_run k2 k3 k4) (grT_ok n ls)
        by_cases c : grT n ls = z
        · exfalso
          rw [← c, gr_split k4] at hWe
          apply hl
          have e5 : W[1]? = some (sNum (n : Nat)) := by rw [← hWe]; rfl
          rw [List.getElem?_eq_getElem h1] at e5
          rw [Option.some.inj e5]
          exact num_one k2
        · rw [if_neg c] at r1
          exact r1
end Tw

set_option Elab.async false
set_option linter.all false
set_option maxRecDepth 100000
set_option maxHeartbeats 1000000
namespace Tw
open PySem PySem.Spec PyProof.Rows L2
local macro_rules | `(tactic| walk_at "run") => `(tactic| simp (disch := (first | omega | (simp only [List.length_map, List.length_append, List.length_cons, List.length_nil, labD_len, rng_lng, cut_len, List.length_drop, List.length_take]; omega))) only [ite_self, at0, at1, at2, isi_tt, isi_tl, isi_ti, isi_ii, isi_it, isi_bb, Bool.not_true, Bool.not_false, Bool.true_or, Bool.false_or, Bool.true_and, Bool.false_and, Bool.and_true, Bool.or_false, Bool.and_false, Bool.or_true, labD_at, r_wipe0, r_wipe1, r_wipe2, r_wipe3, r_appE, appD_l, dAddL', dAddT', ite_or, ite_and, r_run0, r_run1, r_run2, r_run3, r_run4, r_and, r_or, r_if, r_seq, r_1, r_2, r_c, r_call, r_cons, r_nil, r_ret, r_set, r_snil, r_asg, r_on1, r_tup0, r_tup1, r_tup2, r_tup3, r_tup4, r_tup5, r_tup6, r_lst0, r_lst1, r_lst2, r_lst3, r_lst4, r_lst5, r_lst6, r_sl, r_pn, r_ps, r_nm, r_int, r_v0, r_vs, r_rtO,
  andO_b, orO_b, ifO_b, seqO_nx, seqO_rt, seqO_ite, outD_ite, o_bind, o_map, List.map_cons, List.map_nil, List.length_cons, List.length_nil, List.cons_append, List.nil_append, List.set_cons_zero, List.set_cons_succ, Nat.reduceAdd, Nat.reduceSub, Nat.zero_add,
  List.replicate_succ, List.replicate_zero, dAdd_i, dSub_i, dNeg_i, dNot_b, dLt_i, dLe_i, dGt_i, dGe_i, dGeA_i, dMul_i, dMul_j, dDiv_i, dMod_i, dEq_i, dNe_i, dEq_b, dLen_l, dLen_t, dTupOf_l, dTupOf_t, dMin2_i, dMax2_i, dInt1_b, dIx_l, dIx_t, dSl_l, dSl_t, r_gTu2, r_gTu3,
  Bool.false_eq_true, if_true, if_false, eq_self, List.length_map, List.length_replicate])
/-! ### changes of a text -/
theorem spl_ne {s : Nat} {S : List Nat} : ∀ (l acc : List Nat), TL.spl (s :: S) 0 acc l ≠ []
  | [], acc => by rw [TL.spl_nil]; simp
  | c :: r, acc => by
    cases h : TL.pre (s :: S) (c :: r) with
    | true => rw [TL.spl_hit h]; simp
    | false => rw [TL.spl_miss h]; exact spl_ne r _
theorem split_pos (z : Str) : 0 < (Txt.split z SP).length := by
  have h := TL.split_spl z SP (by rw [sp_tl]; simp) (TL.kind_ok (by decide +kernel))
  rw [sp_tl] at h
  have h2 := spl_ne (s := 32) (S := []) (TL.tl z) []
  rw [← h] at h2
  cases e : Txt.split z SP with
  | nil => rw [e] at h2; exact absurd rfl h2
  | cons _ _ => simp
theorem Words.app {A B : Nat} {a b : List Str} (ha : Words A a) (hb : Words B b) : Words (A + B) (a ++ b) := by
  refine ⟨fun w hw => (List.mem_append.mp hw).elim (ha.ok w) (hb.ok w), ?_⟩
  have := ha.wt
  have := hb.wt
  rw [wt_app]
  omega
theorem Words.sub {A B : Nat} {a b : List Str} (ha : Words A a) (h : ∀ w ∈ b, w ∈ a) (hw : Tw.wt b ≤ B) : Words B b := ⟨fun w hb => ha.ok w (h w hb), hw⟩
theorem Words.mono {A B : Nat} {a : List Str} (ha : Words A a) (h : A ≤ B) : Words B a := ⟨ha.ok, Nat.le_trans ha.wt h⟩
theorem dSl_s {z : Str} {lo hi : Option Int} (h : z.length ≤ 1000000) : dSl (.str z) lo hi = some (.str (cutS z lo hi)) := if_pos h
theorem TOk.cut {L : Nat} {z : Str} (h : TOk L z) (lo hi : Option Int) : TOk L (cutS z lo hi) := by
  have e : TL.tl (cutS z lo hi) = (((TL.tl z).drop (HT.sIx z.length 0 lo)).take (HT.sIx z.length z.length hi - HT.sIx z.length 0 lo)) := rfl
  refine ⟨strOk_iff.mpr fun c hc => strOk_iff.mp h.ok c ?_, ?_⟩
  · rw [e] at hc
    exact List.mem_of_mem_drop (List.mem_of_mem_take hc)
  · rw [TL.len_tl, e, List.length_take, List.length_drop, ← TL.len_tl]
    have := h.len
    omega
theorem TOk.app {L M : Nat} {a b : Str} (ha : TOk L a) (hb : TOk M b) : TOk (L + M) (a ++ b) := ⟨strOk_app ha.ok hb.ok, by rw [Str.length_append]; have := ha.len; have := hb.len; omega⟩
theorem add_s {L M : Nat} {a b : Str} (ha : TOk L a) (hb : TOk M b) (h : L + M ≤ 1000000) : dAdd (.str a) (.str b) = some (.str (a ++ b)) := dAdd_s (by have := ha.len; have := hb.len; omega)
abbrev SIGNS : Str := " 0123456789lin-+_\n\t"
theorem dIx_s (z : Str) (i : Int) : dIx (.str z) (.int i) = if z.length ≤ LIM then (atI z.cps.toList i).map fun c => .str ⟨#[c]⟩ else none := Eq.trans rfl rfl
theorem sign_at {i : Int} (h0 : 0 ≤ i) (h : i < 19) : ∃ s, dIx (.str SIGNS) (.int i) = some (.str s) ∧ TOk 1 s := by
  obtain ⟨k, rfl⟩ := Int.eq_ofNat_of_zero_le h0
  have hs : (SIGNS : Str).cps.toList.length = 19 := by decide +kernel
  have hc : ∀ c ∈ (SIGNS : Str).cps.toList, c < 200 := by decide +kernel
  have hk : k < (SIGNS : Str).cps.toList.length := by omega
  refine ⟨chS (SIGNS : Str).cps.toList[k], ?_, strOk_iff.mpr fun c hc' => ?_, Nat.le_refl _⟩
  · rw [dIx_s]
    have : Str.length SIGNS ≤ 1000000 := by decide +kernel
    rw [if_pos this]
    have := at_n (xs := (SIGNS : Str).cps.toList) (i := ((k : Nat) : Int)) (by omega) (by rw [Int.toNat_natCast]; exact List.getElem?_eq_getElem hk)
    rw [this]
    rfl
  · have : c = (SIGNS : Str).cps.toList[k] := List.mem_singleton.mp hc'
    have h2 := hc _ (List.getElem_mem hk)
    omega
abbrev SOMES : Str := "spots line 0 1 2 3 7 8 1000 1001 00 -1"
theorem somes_ok : TOk 40 SOMES := ⟨by decide +kernel, by decide +kernel⟩
theorem somes_len : (Txt.split SOMES SP).length = 12 := by decide +kernel
theorem some_at {i : Int} (h0 : 0 ≤ i) (h : i < 12) : ∃ w, dSplit SP (.str SOMES) = some (.list (sW (Txt.split SOMES SP))) ∧ atI (sW (Txt.split SOMES SP)) i = some (.str w) ∧ Words 41 [w] := by
  obtain ⟨k, rfl⟩ := Int.eq_ofNat_of_zero_le h0
  have hk : k < (Txt.split SOMES SP).length := by rw [somes_len]; omega
  refine ⟨(Txt.split SOMES SP)[k], split_run somes_ok (by omega), ix_words hk, ?_⟩
  have hw := split_words somes_ok.ok somes_ok.len
  refine hw.sub (fun w h => ?_) ?_
  · rw [List.mem_singleton.mp h]
    exact List.getElem_mem hk
  · rw [wt_cons, wt_nil]
    have := wt_mem (List.getElem_mem hk)
    have := hw.wt
    omega
theorem addW {A B : Nat} {a b : List Str} (ha : Words A a) (hb : Words B b) (h : A + B ≤ 1000000) : dAdd (.list (sW a)) (.list (sW b)) = some (.list (sW (a ++ b))) := by
  have h1 := Nat.le_trans (wt_len a) ha.wt
  have h2 := Nat.le_trans (wt_len b) hb.wt
  rw [dAddL' (by rw [List.length_map, List.length_map]; omega)]
  exact congrArg (fun l => some (PyData.list l)) List.map_append.symm
theorem cut_mid {W : List Str} {a : Nat} : cutD (sW W) (some ((a : Nat) : Int)) (some ((a + 1 : Nat) : Int)) = sW ((W.drop a).take 1) := by
  rw [cutD_map, HT.sIx_nat, HT.sIx_nat]
  by_cases h : a < W.length
  · rw [Nat.min_eq_left (by omega), Nat.min_eq_left (by omega)]
    have : a + 1 - a = 1 := by omega
    rw [this]
  · have e1 : W.drop (min a W.length) = [] := List.drop_eq_nil_of_le (by omega)
    have e2 : W.drop a = [] := List.drop_eq_nil_of_le (by omega)
    rw [e1, e2, List.take_nil, List.take_nil]
theorem cut_mid' {W : List Str} {a : Nat} : cutD (sW W) (some ((a + 1 : Nat) : Int)) (some ((a + 2 : Nat) : Int)) = sW ((W.drop (a + 1)).take 1) := cut_mid (a := a + 1)
theorem changed_run {L : Nat} {z : Str} {N : Int} (h : TOk L z) (hL : L ≤ 30000) (hN : 0 ≤ N) : ∃ t, G_l_changed [.str z, .int N] = some (.str t) ∧ TOk (3 * L + 50) t := by
  have hs := split_run h (by omega)
  have hp := split_pos z
  have hw := split_words h.ok h.len
  generalize Txt.split z SP = W at hs hp hw
  have hlen := Nat.le_trans (wt_len W) hw.wt
  have hz := h.len
  obtain ⟨a, ha, ha2⟩ : ∃ a : Nat, N / 8 % (W.length : Int) = a ∧ a < W.length := by
    have h1 : 0 ≤ N / 8 % (W.length : Int) := Int.emod_nonneg _ (by omega)
    have h2 : N / 8 % (W.length : Int) < W.length := Int.emod_lt_of_pos _ (by omega)
    exact ⟨(N / 8 % (W.length : Int)).toNat, by omega, by omega⟩
  unfold G_l_changed b_l_changed
  walk_at "run"
  rw [hs]
  walk_at "run"
  rw [dLen_s (by omega)]
  walk_at "run"
  rw [ha]
  generalize N / 8 % ((z.length : Int) + 1) = p
  have k0 : 0 ≤ N % 8 := Int.emod_nonneg _ (by omega)
  have k8 : N % 8 < 8 := Int.emod_lt_of_pos _ (by omega)
  obtain ⟨sg, hsg, tsg⟩ := sign_at (i := N / 7 % 19) (Int.emod_nonneg _ (by omega)) (Int.emod_lt_of_pos _ (by omega))
  obtain ⟨sm, hsm1, hsm2, wsm⟩ := some_at (i := N / 7 % 12) (Int.emod_nonneg _ (by omega)) (Int.emod_lt_of_pos _ (by omega))
  generalize N % 8 = k at k0 k8
  have e1 : ((a : Nat) : Int) + 1 = ((a + 1 : Nat) : Int) := by omega
  have e2 : ((a : Nat) : Int) + 2 = ((a + 2 : Nat) : Int) := by omega
  have wT : ∀ j, Words (L + 1) (W.take j) := fun j => hw.sub (fun w h => List.mem_of_mem_take h) (by have := wt_take W j; have := hw.wt; omega)
  have wD : ∀ j, Words (L + 1) (W.drop j) := fun j => hw.sub (fun w h => List.mem_of_mem_drop h) (by have := wt_take W j; have := hw.wt; omega)
  have wM : ∀ j i, Words (L + 1) ((W.drop j).take i) := fun j i => hw.sub (fun w h => List.mem_of_mem_drop (List.mem_of_mem_take h)) (by have := wt_cut W j i; have := hw.wt; omega)
  have am : ∀ x y : List Str, sW x ++ sW y = sW (x ++ y) := fun _ _ => List.map_append.symm
  have tl : ∀ j, (sW W).take j = sW (W.take j) := fun j => List.map_take.symm
  have dl : ∀ j, (sW W).drop j = sW (W.drop j) := fun j => List.map_drop.symm
  by_cases c0 : k = 0
  · rw [decide_eq_true c0]
    walk_at "run"
    rw [dSl_s (by omega), dSl_s (by omega)]
    walk_at "run"
    rw [add_s (h.cut _ _) (h.cut _ _) (by omega)]
    walk_at "run"
    exact ⟨_, rfl, ((h.cut _ _).app (h.cut _ _)).mono (by omega)⟩
  rw [decide_eq_false c0]
  walk_at "run"
  by_cases c3 : k < 3
  · rw [decide_eq_true c3]
    walk_at "run"
    rw [hsg]
    walk_at "run"
    rw [dSl_s (by omega), dSl_s (by omega)]
    walk_at "run"
    rw [add_s (h.cut _ _) tsg (by omega)]
    walk_at "run"
    rw [add_s ((h.cut _ _).app tsg) (h.cut _ _) (by omega)]
    walk_at "run"
    exact ⟨_, rfl, (((h.cut _ _).app tsg).app (h.cut _ _)).mono (by omega)⟩
  rw [decide_eq_false c3]
  walk_at "run"
  by_cases c3 : k = 3
  · rw [decide_eq_true c3]
    walk_at "run"
    rw [e1, cutD_to, cutD_from, tl, dl]
    have w := (wT a).app (wD (a + 1))
    first | rw [addW (wT a) (wD (a + 1)) (by omega)] | rw [am]
    try walk_at "run"
    rw [join_run w (by omega)]
    walk_at "run"
    exact ⟨_, rfl, (join_ok w).mono (by omega)⟩
  rw [decide_eq_false c3]
  walk_at "run"
  by_cases c4 : k = 4
  · rw [decide_eq_true c4]
    walk_at "run"
    rw [e1, cutD_to, cutD_from, cut_mid (a := a), tl, dl]
    have w1 := (wT a).app (wM a 1)
    have w := w1.app (wD a)
    first | rw [addW (wT a) (wM a 1) (by omega)] | rw [am]
    try walk_at "run"
    first | rw [addW w1 (wD a) (by omega)] | rw [am]
    try walk_at "run"
    rw [join_run w (by omega)]
    walk_at "run"
    exact ⟨_, rfl, (join_ok w).mono (by omega)⟩
  rw [decide_eq_false c4]
  walk_at "run"
  by_cases c5 : k = 5
  · rw [decide_eq_true c5]
    walk_at "run"
    rw [e1, e2, cut_mid' (a := a), cut_mid (a := a)]
    have w1 := (wM (a + 1) 1).app (wM a 1)
    first | rw [addW (wM (a + 1) 1) (wM a 1) (by omega)] | rw [am]
    try walk_at "run"
    rw [e2, cutD_to, cutD_from, tl, dl]
    first | rw [addW (wT a) w1 (by omega)] | rw [am]
    try walk_at "run"
    have w2 := (wT a).app w1
    first | rw [addW w2 (wD (a + 2)) (by omega)] | rw [am]
    try walk_at "run"
    have w : Words (3 * L + 3) ((W.take a ++ ((W.drop (a + 1)).take 1 ++ (W.drop a).take 1)) ++ W.drop (a + 2)) := by
      refine ⟨(w2.app (wD (a + 2))).ok, ?_⟩
      have h1 := wt_take W a
      have h2 := wt_take (W.drop a) 2
      rw [List.drop_drop] at h2
      have h3 := (wM (a + 1) 1).wt
      have h4 := (wM a 1).wt
      have h5 := hw.wt
      rw [wt_app, wt_app, wt_app]
      omega
    rw [join_run w (by omega)]
    walk_at "run"
    exact ⟨_, rfl, (join_ok w).mono (by omega)⟩
  rw [decide_eq_false c5]
  walk_at "run"
  rw [hsm1]
  walk_at "run"
  rw [hsm2]
  walk_at "run"
  rw [e1, cutD_to, cutD_from, tl, dl]
  have w1 := (wT a).app wsm
  have w := w1.app (wD (a + 1))
  have es : PyData.list [PyData.str sm] = .list (sW [sm]) := rfl
  rw [es]
  first | rw [addW (wT a) wsm (by omega)] | rw [am]
  try walk_at "run"
  first | rw [addW w1 (wD (a + 1)) (by omega)] | rw [am]
  try walk_at "run"
  rw [join_run w (by omega)]
  walk_at "run"
  exact ⟨_, rfl, (join_ok w).mono (by omega)⟩
end Tw

set_option Elab.async false
set_option linter.all false
set_option maxRecDepth 100000
set_option maxHeartbeats 1000000
namespace Tw
open PySem PySem.Spec PyProof.Rows L2
local macro_rules | `(tactic| walk_at "run") => `(tactic| simp (disch := (first | omega | (simp only [List.length_map, List.length_append, List.length_cons, List.length_nil, labD_len, rng_lng, cut_len, List.length_drop, List.length_take]; omega))) only [ite_self, at0, at1, at2, isi_tt, isi_tl, isi_ti, isi_ii, isi_it, isi_bb, Bool.not_true, Bool.not_false, Bool.true_or, Bool.false_or, Bool.true_and, Bool.false_and, Bool.and_true, Bool.or_false, Bool.and_false, Bool.or_true, labD_at, r_wipe0, r_wipe1, r_wipe2, r_wipe3, r_appE, appD_l, dAddL', dAddT', ite_or, ite_and, r_run0, r_run1, r_run2, r_run3, r_run4, r_and, r_or, r_if, r_seq, r_1, r_2, r_c, r_call, r_cons, r_nil, r_ret, r_set, r_snil, r_asg, r_on1, r_tup0, r_tup1, r_tup2, r_tup3, r_tup4, r_tup5, r_tup6, r_lst0, r_lst1, r_lst2, r_lst3, r_lst4, r_lst5, r_lst6, r_sl, r_pn, r_ps, r_nm, r_int, r_v0, r_vs, r_rtO,
  andO_b, orO_b, ifO_b, seqO_nx, seqO_rt, seqO_ite, outD_ite, o_bind, o_map, List.map_cons, List.map_nil, List.length_cons, List.length_nil, List.cons_append, List.nil_append, List.set_cons_zero, List.set_cons_succ, Nat.reduceAdd, Nat.reduceSub, Nat.zero_add,
  List.replicate_succ, List.replicate_zero, dAdd_i, dSub_i, dNeg_i, dNot_b, dLt_i, dLe_i, dGt_i, dGe_i, dGeA_i, dMul_i, dMul_j, dDiv_i, dMod_i, dEq_i, dNe_i, dEq_b, dLen_l, dLen_t, dTupOf_l, dTupOf_t, dMin2_i, dMax2_i, dInt1_b, dIx_l, dIx_t, dSl_l, dSl_t, r_gTu2, r_gTu3,
  Bool.false_eq_true, if_true, if_false, eq_self, List.length_map, List.length_replicate])
theorem l_text23 {n : Nat} {ls : List Ln} (hn : n ≤ 7) (hl : ls.length ≤ 23) (h : ∀ l ∈ ls, LnOk n l) : G_l_written [dGr n ls] = some (.str (grT n ls)) := by
  have lsp : Str.length " " = 1 := by decide +kernel
  have lli : Str.length " line " = 6 := by decide +kernel
  have lss : Str.length "spots " = 6 := by decide +kernel
  unfold G_l_written b_l_written
  walk_at "run"
  have hnl := num_len (i := (n : Int)) (by omega) (by omega)
  rw [dStr_num (by omega)]
  walk_at "run"
  rw [dAdd_s (by omega)]
  walk_at "run"
  have e0 : ("spots " : Str) ++ sNum n = grT n [] := by
    have e2 : ("spots" : Str) ++ " " = "spots " := by decide +kernel
    show _ = Txt.join " " ([("spots" : Str)] ++ [sNum n])
    rw [join_snoc _ _ (by simp), ← e2]
    rfl
  rw [e0]
  generalize e : sFor _ _ _ _ = o
  obtain ⟨ρ', rfl, hq⟩ := for_all e (ds := ls.map dLn) (iSeq_t (by walk_at "run")) (fun i ρ => ∃ x2 x3 x4, ρ = [some (dGr n ls), some (.str (grT n (ls.take i))), x2, x3, x4] ∧ (grT n (ls.take i)).length ≤ 20 + 20 * i)
    ⟨_, _, _, rfl, by rw [List.take_zero, ← e0, Str.length_append]; omega⟩ fun i d ρ hd hq => by
      obtain ⟨x2, x3, x4, rfl, hlen⟩ := hq
      rw [List.getElem?_map] at hd
      cases hd' : ls[i]? with
      | none => rw [hd'] at hd; cases hd
      | some l =>
      rw [hd'] at hd
      obtain rfl : dLn l = d := Option.some.inj hd
      have hk := h l (List.mem_of_getElem? hd')
      have h1 := hk.1
      have h2 := hk.2.1
      have h3 := hk.2.2.1
      have h4 := hk.2.2.2.1
      have h5 := hk.2.2.2.2
      have n1 := num_len (i := l.a) (by omega) (by omega)
      have n2 := num_len (i := l.b) (by omega) (by omega)
      have n3 := num_len (i := l.w) (by omega) (by omega)
      have hil := (List.getElem?_eq_some_iff.mp hd').1
      have htk : ls.take (i + 1) = ls.take i ++ [l] := by rw [List.take_succ, hd']; rfl
      refine ⟨_, r_gTu3, ?_⟩
      rw [htk, grT_snoc]
      generalize grT n (ls.take i) = T at hlen ⊢
      walk_at "run"
      rw [dStr_num (by omega), dStr_num (by omega), dStr_num (by omega)]
      have L1 : (T ++ " line ").length ≤ 26 + 20 * i := by rw [Str.length_append]; omega
      have L2 : (T ++ " line " ++ sNum l.a).length ≤ 30 + 20 * i := by rw [Str.length_append]; omega
      have L3 : (T ++ " line " ++ sNum l.a ++ " ").length ≤ 31 + 20 * i := by rw [Str.length_append]; omega
      have L4 : (T ++ " line " ++ sNum l.a ++ " " ++ sNum l.b).length ≤ 35 + 20 * i := by rw [Str.length_append]; omega
      have L5 : (T ++ " line " ++ sNum l.a ++ " " ++ sNum l.b ++ " ").length ≤ 36 + 20 * i := by rw [Str.length_append]; omega
      have L6 : (T ++ " line " ++ sNum l.a ++ " " ++ sNum l.b ++ " " ++ sNum l.w).length ≤ 40 + 20 * i := by rw [Str.length_append]; omega
      walk_at "run"
      rw [dAdd_s (by omega)]
      walk_at "run"
      rw [dAdd_s (by omega)]
      walk_at "run"
      rw [dAdd_s (by omega)]
      walk_at "run"
      rw [dAdd_s (by omega)]
      walk_at "run"
      rw [dAdd_s (by omega)]
      walk_at "run"
      rw [dAdd_s (by omega)]
      walk_at "run"
      exact ⟨_, rfl, _, _, _, rfl, by omega⟩
  obtain ⟨x2, x3, x4, rfl, hlen⟩ := hq
  rw [List.length_map, List.take_length]
  walk_at "run"
theorem gr_tok {n : Nat} {ls : List Ln} (hn : n ≤ 7) (hl : ls.length ≤ 23) (h : ∀ l ∈ ls, LnOk n l) : TOk 564 (grT n ls) := by
  refine ⟨grT_ok n ls, ?_⟩
  obtain ⟨h1, h2⟩ := words_ok n ls hn h
  have : Tw.wt (grW n ls) ≤ 6 * (grW n ls).length := by
    clear h1
    generalize grW n ls = ws at h2
    induction ws with
    | nil => exact Nat.le_refl _
    | cons w r ih =>
      have := ih fun y hy => h2 y (List.mem_cons_of_mem _ hy)
      have := h2 w List.mem_cons_self
      rw [wt_cons, List.length_cons]
      omega
  have e2 := TL.tl_join SP (grW n ls)
  rw [sp_tl] at e2
  have h3 := joinL_len (grW_ne n ls)
  rw [← e2, ← TL.len_tl, ← TL.join_eq] at h3
  have : (grT n ls).length + 1 = Tw.wt (grW n ls) := h3
  omega
theorem dNe_nilT {ds : List D} (h : ∀ d ∈ ds, Shp 59 d) : dNe (.tuple ds) (.tuple []) = some (.bool (!ds.isEmpty)) := by
  unfold dNe
  have h1 : SeqAt.shaped (.tuple ds) = true := (shp_tuple h).ok (by omega)
  have h2 : SeqAt.shaped (.tuple []) = true := (shp_tuple (k := 0) (ds := []) fun d hd => by cases hd).ok (by omega)
  rw [if_pos ⟨h1, h2⟩]
  cases ds <;> rfl
theorem shp_ln' (l : Ln) : Shp 59 (dLn l) := (shp_tuple (k := 0) fun d hd => by
  simp only [List.mem_cons, List.not_mem_nil, or_false] at hd
  rcases hd with rfl | rfl | rfl <;> exact shp_int _).mono (by omega)
def rep23 {α : Type} (xs : List α) : List α := (List.replicate 23 xs).flatten
theorem mul23 {ds : List D} (h : ds ≠ []) (hl : ds.length ≤ 1000) : dMul (.tuple ds) (.int 23) = some (.tuple (rep23 ds)) := by
  show (if _ then _ else _) = _
  rw [if_pos ⟨h, by omega, by omega, hl⟩]
  rfl
theorem rep_map {α β : Type} (f : α → β) (xs : List α) : ∀ n : Nat, (List.replicate n (xs.map f)).flatten = ((List.replicate n xs).flatten).map f
  | 0 => rfl
  | n + 1 => by rw [List.replicate_succ, List.replicate_succ, List.flatten_cons, List.flatten_cons, List.map_append, rep_map f xs n]
theorem rep_mem {α : Type} {x : α} {xs : List α} : ∀ {n : Nat}, x ∈ (List.replicate n xs).flatten → x ∈ xs
  | 0, h => by cases h
  | n + 1, h => by
    rw [List.replicate_succ, List.flatten_cons, List.mem_append] at h
    rcases h with h | h
    · exact h
    · exact rep_mem h
theorem rep23_map {α β : Type} (f : α → β) (xs : List α) : rep23 (xs.map f) = (rep23 xs).map f := rep_map f xs 23
theorem rep23_mem {α : Type} {x : α} {xs : List α} (h : x ∈ rep23 xs) : x ∈ xs := rep_mem h
def lenF : Nat → Nat
  | 0 => 564
  | n + 1 => 3 * lenF n + 50
theorem r_try {gb : Sx} {d0 : D} {ρ ρ' : Rho} (h : gb ρ = some (.nx ρ')) : sTry gb d0 ρ = some (.nx ρ') := by
  unfold sTry
  rw [h]
theorem r_tryX {gb : Sx} {d0 : D} {ρ : Rho} (h : gb ρ = some (.rt exD)) : sTry gb d0 ρ = some (.rt d0) := by
  unfold sTry
  rw [h]
  rfl
theorem found_no {z : Str} (h : G_read [.str z] = some exD) : G_l_found [.str z] = some .none := by
  unfold G_l_found b_l_found
  walk_at "run"
  rw [r_tryX (by rw [r_setX]; walk_at "run"; rw [h]; rfl)]
  walk_at "run"
theorem found_yes {z : Str} {n : Nat} {ls : List Ln} (h : G_read [.str z] = some (dGr n ls)) : G_l_found [.str z] = some (dGr n ls) := by
  unfold G_l_found b_l_found
  walk_at "run"
  rw [r_try (ρ' := [some (.str z), none, some (dGr n ls), none]) (by rw [r_setX]; walk_at "run"; rw [h]; rfl)]
  walk_at "run"
  rfl
theorem shp_lnA (l : Ln) : Shp 1 (dLn l) := shp_tuple fun d hd => by
  simp only [List.mem_cons, List.not_mem_nil, or_false] at hd
  rcases hd with rfl | rfl | rfl <;> exact shp_int _
theorem shp_grA (n : Nat) (ls : List Ln) : Shp 60 (dGr n ls) := (shp_tuple (k := 2) fun d hd => by
  simp only [List.mem_cons, List.not_mem_nil, or_false] at hd
  rcases hd with rfl | rfl
  · exact (shp_int _).mono (by omega)
  · exact shp_tuple fun d hd => by
      obtain ⟨l, _, rfl⟩ := List.mem_map.mp hd
      exact shp_lnA l).mono (by omega)
end Tw

set_option Elab.async false
set_option linter.all false
set_option maxRecDepth 100000
set_option maxHeartbeats 8000000
namespace K03
open PySem PySem.Spec PyProof.Rows L2 Tw

def topS (i : Nat) : Stmt := PySem.Challenge.pw_twighall_k03_whole_read.main.body.getD i (.Pass ⟨0, 0, 0, 0⟩)
abbrev s_l_drawn : Stmt := topS 22
def o_l_drawn : Nat → Bool := fun i => false
theorem sc_l_drawn : FnScope ["_law_number_here", "_law_k", "_law_drawn_here"] ["_law_number_here", "_law_k"] (defScope s_l_drawn) := ⟨rfl, rfl, rfl, by decide +kernel, rfl, by decide +kernel, by decide +kernel⟩
theorem ok_l_drawn {P : Program} {w : World} {K : PySem.W.Frag} {mg : Str → Option Value} {base : Heap} {f : Addr} {fd : FuncData} (F : Fun K "_law_drawn" "_law_drawn" s_l_drawn f fd) (hf : mg "_law_drawn" = some (.ref f)) (bt : Bt mg) : Cal P w K mg base 1 "_law_drawn" ["_law_number_here", "_law_k"] G_l_drawn := by
  refine ⟨f, fd, fn_run (k := 0) F sc_l_drawn (by decide) (own := o_l_drawn) (g := b_l_drawn) (fun _ _ h => h) (fun cdv A outer s H E hr => ?_), hf, F.kp, F.binds (ps := ["_law_number_here", "_law_k"]) fun _ _ _ _ _ _ us hl => match us, hl with | [_, _], _ => rfl⟩
  exact (ss_cons (s_set (i := 2) sc_l_drawn.nd (e_mod (xb (e_mul (xb (e_add (xb (e_add (e_varB 0) (xb (e_mul (xb e_int) (e_varB 1))))) (xb e_int))) (xb e_int))) (xb e_int)))
    (ss_one (s_ret (e_mod (xb (e_add (xb (e_add (xb (e_mul (e_varB 2) (e_varB 2))) (xb (e_mul (xb e_int) (e_varB 2))))) (e_varB 1))) (xb e_int)))))
abbrev s_l_ground : Stmt := topS 24
def o_l_ground : Nat → Bool := fun i => i == 4
theorem sc_l_ground : FnScope ["_law_number_here", "_law_most", "_law_lines", "_law_many", "_law_found_here", "_law_high", "_law_spot", "_law_k", "_law_by", "_law_drawn_here", "_law_one", "_law_other"] ["_law_number_here", "_law_most", "_law_lines"] (defScope s_l_ground) := ⟨rfl, rfl, rfl, by decide +kernel, rfl, by decide +kernel, by decide +kernel⟩
theorem ok_l_ground {P : Program} {w : World} {K : PySem.W.Frag} {mg : Str → Option Value} {base : Heap} {f : Addr} {fd : FuncData} (F : Fun K "_law_ground" "_law_ground" s_l_ground f fd) (hf : mg "_law_ground" = some (.ref f)) (bt : Bt mg) (C_l_drawn : Cal P w K mg base 1 "_law_drawn" ["_law_number_here", "_law_k"] G_l_drawn) : Cal P w K mg base 2 "_law_ground" ["_law_number_here", "_law_most", "_law_lines"] G_l_ground := by
  refine ⟨f, fd, fn_run (k := 1) F sc_l_ground (by decide) (own := o_l_ground) (g := b_l_ground) (fun _ _ h => h) (fun cdv A outer s H E hr => ?_), hf, F.kp, F.binds (ps := ["_law_number_here", "_law_most", "_law_lines"]) fun _ _ _ _ _ _ us hl => match us, hl with | [_, _, _], _ => rfl⟩
  exact (ss_cons (s_set (i := 3) sc_l_ground.nd (e_add (xb e_int) (xb (e_mod (e_varB 0) (e_varB 1)))))
    (ss_cons (s_setN (i := 4) sc_l_ground.nd (n_lst a_nil))
    (ss_cons (s_set (i := 5) sc_l_ground.nd (e_ix (xb (e_tup (a_cons e_int (a_cons e_int (a_cons e_int (a_cons e_int a_nil)))))) (xb (e_mod (xb (e_div (e_varB 0) (xb e_int))) (xb e_int)))))
    (ss_cons (s_for rfl (i_r2 (fz := true) bt.range e_int (e_var 3)) (g_nm sc_l_ground.nd)
    (ss_cons (s_set (i := 9) sc_l_ground.nd (e_cal C_l_drawn hr (a_cons (e_var 0) (a_cons (e_var 6) a_nil))))
    (ss_one (s_if (PW.pt (c_or (c_gt (xb (e_mod (xb (e_div (e_varB 0) (xb e_int))) (xb e_int))) (xb e_int)) (c_or1 (c_gt (xb (e_mod (e_varB 9) (xb e_int))) (xb e_int))))) (ss_one (s_app (i := 4) (e_tup (a_cons (e_mod (xb (e_div (e_varB 9) (xb e_int))) (e_varB 6)) (a_cons (e_var 6) (a_cons (e_mod (xb (e_div (e_varB 9) (xb e_int))) (e_varB 5)) a_nil)))))) ss_nil))))
    (ss_cons (s_for rfl (i_r1 (fz := true) bt.range (e_mod (xb (e_div (e_varB 0) (xb e_int))) (xb (e_add (e_varB 2) (xb e_int))))) (g_nm sc_l_ground.nd)
    (ss_cons (s_set (i := 9) sc_l_ground.nd (e_cal C_l_drawn hr (a_cons (e_var 0) (a_cons (e_add (xb e_int) (e_varB 7)) a_nil))))
    (ss_one (s_if (PW.pt (c_and (c_gt (e_varB 3) (xb e_int)) (c_and1 (c_lt hr (xb (e_callB call_len ok_len bt.len (ab1 (e_varB 4)))) (e_varB 2))))) (ss_cons (s_set (i := 10) sc_l_ground.nd (e_mod (e_varB 9) (e_varB 3)))
    (ss_cons (s_set (i := 11) sc_l_ground.nd (e_mod (xb (e_add (xb (e_add (e_varB 10) (xb e_int))) (xb (e_mod (xb (e_div (e_varB 9) (xb e_int))) (xb (e_sub (e_varB 3) (xb e_int))))))) (e_varB 3)))
    (ss_one (s_app (i := 4) (e_tup (a_cons (e_callB (call_min2 rfl) ok_min2 bt.min (ab2 (e_varB 10) (e_varB 11))) (a_cons (e_callB (call_max2 rfl) ok_max2 bt.max (ab2 (e_varB 10) (e_varB 11))) (a_cons (e_mod (xb (e_div (e_varB 9) (xb e_int))) (e_varB 5)) a_nil)))))))) ss_nil))))
    (ss_cons (s_set (i := 8) sc_l_ground.nd (e_mod (xb (e_div (e_varB 0) (xb e_int))) (xb e_int)))
    (ss_one (s_ret (e_tup (a_cons (e_var 3) (a_cons (e_callT call_tuple_of ok_tup1 bt.tuple (ab1 (xb (e_add (xb (e_sl (e_varB 4) (o_some (e_varB 8)) o_none)) (xb (e_sl (e_varB 4) o_none (o_some (e_varB 8)))))))) a_nil)))))))))))
abbrev s_l_cell_at : Stmt := topS 20
def o_l_cell_at : Nat → Bool := fun i => false
theorem sc_l_cell_at : FnScope ["_law_script", "_law_k"] ["_law_script", "_law_k"] (defScope s_l_cell_at) := ⟨rfl, rfl, rfl, by decide +kernel, rfl, by decide +kernel, by decide +kernel⟩
theorem ok_l_cell_at {P : Program} {w : World} {K : PySem.W.Frag} {mg : Str → Option Value} {base : Heap} {f : Addr} {fd : FuncData} (F : Fun K "_law_cell_at" "_law_cell_at" s_l_cell_at f fd) (hf : mg "_law_cell_at" = some (.ref f)) (bt : Bt mg) : Cal P w K mg base 1 "_law_cell_at" ["_law_script", "_law_k"] G_l_cell_at := by
  refine ⟨f, fd, fn_run (k := 0) F sc_l_cell_at (by decide) (own := o_l_cell_at) (g := b_l_cell_at) (fun _ _ h => h) (fun cdv A outer s H E hr => ?_), hf, F.kp, F.binds (ps := ["_law_script", "_law_k"]) fun _ _ _ _ _ _ us hl => match us, hl with | [_, _], _ => rfl⟩
  exact (ss_cons (s_if (c_lt hr (e_varB 1) (xb (e_callB call_len ok_len bt.len (ab1 (e_varB 0))))) (ss_one (s_ret (e_ix (e_varB 0) (e_varB 1)))) ss_nil)
    (ss_one (s_ret e_int)))
abbrev s_l_mixed : Stmt := topS 21
def o_l_mixed : Nat → Bool := fun i => false
theorem sc_l_mixed : FnScope ["_law_script", "_law_k", "_law_drawn_here"] ["_law_script", "_law_k"] (defScope s_l_mixed) := ⟨rfl, rfl, rfl, by decide +kernel, rfl, by decide +kernel, by decide +kernel⟩
theorem ok_l_mixed {P : Program} {w : World} {K : PySem.W.Frag} {mg : Str → Option Value} {base : Heap} {f : Addr} {fd : FuncData} (F : Fun K "_law_mixed" "_law_mixed" s_l_mixed f fd) (hf : mg "_law_mixed" = some (.ref f)) (bt : Bt mg) (C_l_cell_at : Cal P w K mg base 1 "_law_cell_at" ["_law_script", "_law_k"] G_l_cell_at) : Cal P w K mg base 2 "_law_mixed" ["_law_script", "_law_k"] G_l_mixed := by
  refine ⟨f, fd, fn_run (k := 1) F sc_l_mixed (by decide) (own := o_l_mixed) (g := b_l_mixed) (fun _ _ h => h) (fun cdv A outer s H E hr => ?_), hf, F.kp, F.binds (ps := ["_law_script", "_law_k"]) fun _ _ _ _ _ _ us hl => match us, hl with | [_, _], _ => rfl⟩
  exact (ss_cons (s_set (i := 2) sc_l_mixed.nd (e_mod (xb (e_mul (xb (e_add (xb (e_add (xb (e_cal C_l_cell_at hr (a_cons (e_var 0) (a_cons (e_var 1) a_nil)))) (xb (e_mul (xb e_int) (e_varB 1))))) (xb e_int))) (xb e_int))) (xb e_int)))
    (ss_one (s_ret (e_mod (xb (e_add (xb (e_add (xb (e_mul (e_varB 2) (e_varB 2))) (xb (e_mul (xb e_int) (e_varB 2))))) (e_varB 1))) (xb e_int)))))
abbrev s_l_written : Stmt := topS 26
def o_l_written : Nat → Bool := fun i => false
theorem sc_l_written : FnScope ["_law_ground_here", "_law_found_here", "_law_one", "_law_other", "_law_length"] ["_law_ground_here"] (defScope s_l_written) := ⟨rfl, rfl, rfl, by decide +kernel, rfl, by decide +kernel, by decide +kernel⟩
theorem ok_l_written {P : Program} {w : World} {K : PySem.W.Frag} {mg : Str → Option Value} {base : Heap} {f : Addr} {fd : FuncData} (F : Fun K "_law_written" "_law_written" s_l_written f fd) (hf : mg "_law_written" = some (.ref f)) (bt : Bt mg) : Cal P w K mg base 1 "_law_written" ["_law_ground_here"] G_l_written := by
  refine ⟨f, fd, fn_run (k := 0) F sc_l_written (by decide) (own := o_l_written) (g := b_l_written) (fun _ _ h => h) (fun cdv A outer s H E hr => ?_), hf, F.kp, F.binds (ps := ["_law_ground_here"]) fun _ _ _ _ _ _ us hl => match us, hl with | [_], _ => rfl⟩
  exact (ss_cons (s_set (i := 1) sc_l_written.nd (e_add (xb e_str) (xb (e_callT call_str_int ok_str1 bt.str (ab1 (xb (e_ix (e_varB 0) (xb e_int))))))))
    (ss_cons (s_for rfl (i_seq (e_ix (e_varB 0) (xb e_int))) (g_tu rfl (gs_cons sc_l_written.nd (gs_cons sc_l_written.nd (gs_cons sc_l_written.nd gs_nil))))
    (ss_one (s_set (i := 1) sc_l_written.nd (e_add (xb (e_add (xb (e_add (xb (e_add (xb (e_add (xb (e_add (e_varB 1) (xb e_str))) (xb (e_callT call_str_int ok_str1 bt.str (ab1 (e_varB 2)))))) (xb e_str))) (xb (e_callT call_str_int ok_str1 bt.str (ab1 (e_varB 3)))))) (xb e_str))) (xb (e_callT call_str_int ok_str1 bt.str (ab1 (e_varB 4))))))))
    (ss_one (s_ret (e_var 1)))))
abbrev s_number_of : Stmt := topS 17
def o_number_of : Nat → Bool := fun i => false
theorem sc_number_of : FnScope ["word", "sign"] ["word"] (defScope s_number_of) := ⟨rfl, rfl, rfl, by decide +kernel, rfl, by decide +kernel, by decide +kernel⟩
theorem ok_number_of {P : Program} {w : World} {K : PySem.W.Frag} {mg : Str → Option Value} {base : Heap} {f : Addr} {fd : FuncData} (F : Fun K "number_of" "number_of" s_number_of f fd) (hf : mg "number_of" = some (.ref f)) (bt : Bt mg) {cNoText : Addr} (EW : ExcW K mg "NoText" cNoText) {t_FIGURES : Tok} (c_FIGURES : mg "FIGURES" = some (.str "0123456789" t_FIGURES)) : CalX P w K mg base 1 "number_of" ["word"] cNoText G_number_of := by
  refine ⟨f, fd, fn_runX (k := 0) F sc_number_of (by decide) (own := o_number_of) (g := b_number_of) (fun _ _ h => h) (fun cdv A outer s H E0 hr tk => ?_), hf, F.kp, F.binds (ps := ["word"]) fun _ _ _ _ _ _ us hl => match us, hl with | [_], _ => rfl⟩
  exact (ssx_cons (sx_if (PW.pt (c_or (c_not (c_chain op_le ok_le op_le ok_le (xb e_int) (xb (e_callB call_len ok_len bt.len (ab1 (e_varB 0)))) (xb e_int))) (c_or1 (c_not (c_val (e_callB (cr_all rfl) ok_all bt.all (ab1 (xb (xn (n_comp rfl sc_number_of.nd (i_str (fz := false) (e_varB 0)) (blkOk_by (own := [("sign", 1)]) (by kernel_rfl)) rfl (fun _ _ _ _ _ => (g_nm sc_number_of.nd)) (fun _ _ _ _ _ => t_yes) (fun _ _ _ _ _ => (e_inS (e_varB 1) (xb (e_gstr c_FIGURES)))))))))))))) (ssx_one (sx_raise rfl tk EW.q EW.g EW.k EW.r1 EW.r2)) ssx_nil)
    (ssx_one (sx_lift (s_ret (e_callT call_int_str ok_intS bt.int (ab1 (e_varB 0)))))))
abbrev s_is_number : Stmt := topS 9
def o_is_number : Nat → Bool := fun i => false
theorem sc_is_number : FnScope ["thing", "low", "high"] ["thing", "low", "high"] (defScope s_is_number) := ⟨rfl, rfl, rfl, by decide +kernel, rfl, by decide +kernel, by decide +kernel⟩
theorem ok_is_number {P : Program} {w : World} {K : PySem.W.Frag} {mg : Str → Option Value} {base : Heap} {f : Addr} {fd : FuncData} (F : Fun K "is_number" "is_number" s_is_number f fd) (hf : mg "is_number" = some (.ref f)) (bt : Bt mg) : Cal P w K mg base 1 "is_number" ["thing", "low", "high"] G_is_number := by
  refine ⟨f, fd, fn_run (k := 0) F sc_is_number (by decide) (own := o_is_number) (g := b_is_number) (fun _ _ h => h) (fun cdv A outer s H E hr => ?_), hf, F.kp, F.binds (ps := ["thing", "low", "high"]) fun _ _ _ _ _ _ us hl => match us, hl with | [_, _, _], _ => rfl⟩
  exact (ss_one (s_ret (e_and (e_isi .int (e_varB 0) bt.isinstance bt.int) (e_and (e_not (e_isi .bool (e_varB 0) bt.isinstance bt.bool)) (e_one (e_chain op_le ok_le op_le ok_le (e_varB 1) (e_varB 0) (e_varB 2)))))))
abbrev s_is_pair : Stmt := topS 10
def o_is_pair : Nat → Bool := fun i => false
theorem sc_is_pair : FnScope ["one", "other", "many"] ["one", "other", "many"] (defScope s_is_pair) := ⟨rfl, rfl, rfl, by decide +kernel, rfl, by decide +kernel, by decide +kernel⟩
theorem ok_is_pair {P : Program} {w : World} {K : PySem.W.Frag} {mg : Str → Option Value} {base : Heap} {f : Addr} {fd : FuncData} (F : Fun K "is_pair" "is_pair" s_is_pair f fd) (hf : mg "is_pair" = some (.ref f)) (bt : Bt mg) (C_is_number : Cal P w K mg base 1 "is_number" ["thing", "low", "high"] G_is_number) : Cal P w K mg base 2 "is_pair" ["one", "other", "many"] G_is_pair := by
  refine ⟨f, fd, fn_run (k := 1) F sc_is_pair (by decide) (own := o_is_pair) (g := b_is_pair) (fun _ _ h => h) (fun cdv A outer s H E hr => ?_), hf, F.kp, F.binds (ps := ["one", "other", "many"]) fun _ _ _ _ _ _ us hl => match us, hl with | [_, _, _], _ => rfl⟩
  exact (ss_one (s_ret (e_and (e_cal C_is_number hr (a_cons (e_var 0) (a_cons e_int (a_cons (e_sub (e_varB 2) (xb e_int)) a_nil)))) (e_and (e_cal C_is_number hr (a_cons (e_var 1) (a_cons e_int (a_cons (e_sub (e_varB 2) (xb e_int)) a_nil)))) (e_one (e_lt hr (e_varB 0) (e_varB 1)))))))
abbrev s_is_line : Stmt := topS 11
def o_is_line : Nat → Bool := fun i => false
theorem sc_is_line : FnScope ["thing", "many"] ["thing", "many"] (defScope s_is_line) := ⟨rfl, rfl, rfl, by decide +kernel, rfl, by decide +kernel, by decide +kernel⟩
theorem ok_is_line {P : Program} {w : World} {K : PySem.W.Frag} {mg : Str → Option Value} {base : Heap} {f : Addr} {fd : FuncData} (F : Fun K "is_line" "is_line" s_is_line f fd) (hf : mg "is_line" = some (.ref f)) (bt : Bt mg) (C_is_number : Cal P w K mg base 1 "is_number" ["thing", "low", "high"] G_is_number) (C_is_pair : Cal P w K mg base 2 "is_pair" ["one", "other", "many"] G_is_pair) {t_LONGEST : Tok} (c_LONGEST : mg "LONGEST" = some (.int 1000 t_LONGEST)) : Cal P w K mg base 3 "is_line" ["thing", "many"] G_is_line := by
  refine ⟨f, fd, fn_run (k := 2) F sc_is_line (by decide) (own := o_is_line) (g := b_is_line) (fun _ _ h => h) (fun cdv A outer s H E hr => ?_), hf, F.kp, F.binds (ps := ["thing", "many"]) fun _ _ _ _ _ _ us hl => match us, hl with | [_, _], _ => rfl⟩
  exact (ss_cons (s_if (PW.pt (c_or (c_not (c_val (e_isi .tuple (e_varB 0) bt.isinstance bt.tuple))) (c_or (c_ne hr (xb (e_callB call_len ok_len bt.len (ab1 (e_varB 0)))) (xb e_int)) (c_or1 (c_not (c_val (e_cal C_is_pair hr (a_cons (e_ix (e_varB 0) (xb e_int)) (a_cons (e_ix (e_varB 0) (xb e_int)) (a_cons (e_var 1) a_nil)))))))))) (ss_one (s_ret e_bl)) ss_nil)
    (ss_one (s_ret (e_cal C_is_number hr (a_cons (e_ix (e_varB 0) (xb e_int)) (a_cons e_int (a_cons (e_gint c_LONGEST) a_nil)))))))
abbrev s_is_ground : Stmt := topS 12
def o_is_ground : Nat → Bool := fun i => false
theorem sc_is_ground : FnScope ["thing", "lines", "line"] ["thing"] (defScope s_is_ground) := ⟨rfl, rfl, rfl, by decide +kernel, rfl, by decide +kernel, by decide +kernel⟩
theorem ok_is_ground {P : Program} {w : World} {K : PySem.W.Frag} {mg : Str → Option Value} {base : Heap} {f : Addr} {fd : FuncData} (F : Fun K "is_ground" "is_ground" s_is_ground f fd) (hf : mg "is_ground" = some (.ref f)) (bt : Bt mg) (C_is_number : Cal P w K mg base 1 "is_number" ["thing", "low", "high"] G_is_number) (C_is_line : Cal P w K mg base 3 "is_line" ["thing", "many"] G_is_line) {t_LINES : Tok} (c_LINES : mg "LINES" = some (.int 21 t_LINES)) {t_SPOTS : Tok} (c_SPOTS : mg "SPOTS" = some (.int 7 t_SPOTS)) : Cal P w K mg base 4 "is_ground" ["thing"] G_is_ground := by
  refine ⟨f, fd, fn_run (k := 3) F sc_is_ground (by decide) (own := o_is_ground) (g := b_is_ground) (fun _ _ h => h) (fun cdv A outer s H E hr => ?_), hf, F.kp, F.binds (ps := ["thing"]) fun _ _ _ _ _ _ us hl => match us, hl with | [_], _ => rfl⟩
  exact (ss_cons (s_if (PW.pt (c_or (c_not (c_val (e_isi .tuple (e_varB 0) bt.isinstance bt.tuple))) (c_or (c_ne hr (xb (e_callB call_len ok_len bt.len (ab1 (e_varB 0)))) (xb e_int)) (c_or1 (c_not (c_val (e_cal C_is_number hr (a_cons (e_ix (e_varB 0) (xb e_int)) (a_cons e_int (a_cons (e_gint c_SPOTS) a_nil)))))))))) (ss_one (s_ret e_bl)) ss_nil)
    (ss_cons (s_set (i := 1) sc_is_ground.nd (e_ix (e_varB 0) (xb e_int)))
    (ss_one (s_ret (e_and (e_isi .tuple (e_varB 1) bt.isinstance bt.tuple) (e_and (e_le (xb (e_callB call_len ok_len bt.len (ab1 (e_varB 1)))) (xb (e_gint c_LINES))) (e_one (e_callB (cr_all rfl) ok_all bt.all (ab1 (xb (xn (n_comp rfl sc_is_ground.nd (i_seqB (e_varB 1)) (blkOk_by (own := [("line", 2)]) (by kernel_rfl)) rfl (fun _ _ _ _ _ => (g_nm sc_is_ground.nd)) (fun _ _ _ _ _ => t_yes) (fun _ _ _ _ _ => (e_cal C_is_line hr (a_cons (e_var 2) (a_cons (e_ix (e_varB 0) (xb e_int)) a_nil))))))))))))))))
abbrev s_ground_text : Stmt := topS 14
def o_ground_text : Nat → Bool := fun i => i == 1
theorem sc_ground_text : FnScope ["ground", "words", "line", "part"] ["ground"] (defScope s_ground_text) := ⟨rfl, rfl, rfl, by decide +kernel, rfl, by decide +kernel, by decide +kernel⟩
theorem ok_ground_text {P : Program} {w : World} {K : PySem.W.Frag} {mg : Str → Option Value} {base : Heap} {f : Addr} {fd : FuncData} (F : Fun K "ground_text" "ground_text" s_ground_text f fd) (hf : mg "ground_text" = some (.ref f)) (bt : Bt mg) : Cal P w K mg base 1 "ground_text" ["ground"] G_ground_text := by
  refine ⟨f, fd, fn_run (k := 0) F sc_ground_text (by decide) (own := o_ground_text) (g := b_ground_text) (fun _ _ h => h) (fun cdv A outer s H E hr => ?_), hf, F.kp, F.binds (ps := ["ground"]) fun _ _ _ _ _ _ us hl => match us, hl with | [_], _ => rfl⟩
  exact (ss_cons (s_setN (i := 1) sc_ground_text.nd (n_lst (a_cons e_str (a_cons (e_callT call_str_int ok_str1 bt.str (ab1 (xb (e_ix (e_varB 0) (xb e_int))))) a_nil))))
    (ss_cons (s_for rfl (i_seq (e_ix (e_varB 0) (xb e_int))) (g_nm sc_ground_text.nd)
    (ss_one (s_ext (i := 1) (e_add (xb (xn (n_lst (a_cons e_str a_nil)))) (xb (xn (n_comp rfl sc_ground_text.nd (i_seqB (e_varB 2)) (blkOk_by (own := [("part", 3)]) (by kernel_rfl)) rfl (fun _ _ _ _ _ => (g_nm sc_ground_text.nd)) (fun _ _ _ _ _ => t_yes) (fun _ _ _ _ _ => (e_callT call_str_int ok_str1 bt.str (ab1 (e_varB 3)))))))))))
    (ss_one (s_ret (e_join (e_varB 1))))))
abbrev s_read : Stmt := topS 18
def o_read : Nat → Bool := fun i => i == 2
theorem sc_read : FnScope ["text", "words", "lines", "at", "found", "word"] ["text"] (defScope s_read) := ⟨rfl, rfl, rfl, by decide +kernel, rfl, by decide +kernel, by decide +kernel⟩
theorem ok_read {P : Program} {w : World} {K : PySem.W.Frag} {mg : Str → Option Value} {base : Heap} {f : Addr} {fd : FuncData} (F : Fun K "read" "read" s_read f fd) (hf : mg "read" = some (.ref f)) (bt : Bt mg) {cNoText : Addr} (EW : ExcW K mg "NoText" cNoText) (C_number_of : CalX P w K mg base 1 "number_of" ["word"] cNoText G_number_of) (C_is_ground : Cal P w K mg base 4 "is_ground" ["thing"] G_is_ground) (C_ground_text : Cal P w K mg base 1 "ground_text" ["ground"] G_ground_text) : CalX P w K mg base 5 "read" ["text"] cNoText G_read := by
  refine ⟨f, fd, fn_runX (k := 4) F sc_read (by decide) (own := o_read) (g := b_read) (fun _ _ h => h) (fun cdv A outer s H E0 hr tk => ?_), hf, F.kp, F.binds (ps := ["text"]) fun _ _ _ _ _ _ us hl => match us, hl with | [_], _ => rfl⟩
  exact (ssx_cons (sx_if (c_not (c_val (e_isi .str (e_varB 0) bt.isinstance bt.str))) (ssx_one (sx_raise rfl tk EW.q EW.g EW.k EW.r1 EW.r2)) ssx_nil)
    (ssx_cons (sx_lift (s_set (i := 1) sc_read.nd (xn (n_split (by decide) (e_varB 0)))))
    (ssx_cons (sx_if (PW.pt (c_or (c_ne hr (xb (e_mod (xb (e_callB call_len ok_len bt.len (ab1 (e_varB 1)))) (xb e_int))) (xb e_int)) (c_or (c_ne hr (xb (e_ix (e_varB 1) (xb e_int))) (xb e_str)) (c_or1 (c_not (c_val (e_callB (cr_all rfl) ok_all bt.all (ab1 (xb (xn (n_comp rfl sc_read.nd (i_seqB (xb (e_pick (e_varB 1)))) (blkOk_by (own := [("word", 5)]) (by kernel_rfl)) rfl (fun _ _ _ _ _ => (g_nm sc_read.nd)) (fun _ _ _ _ _ => t_yes) (fun _ _ _ _ _ => (e_eq hr (e_varB 5) (xb e_str)))))))))))))) (ssx_one (sx_raise rfl tk EW.q EW.g EW.k EW.r1 EW.r2)) ssx_nil)
    (ssx_cons (sx_lift (s_setN (i := 2) sc_read.nd (n_lst a_nil)))
    (ssx_cons (sx_for rfl (i_r3 (fz := true) bt.range e_int (e_callB call_len ok_len bt.len (ab1 (e_varB 1))) e_int) (g_nm sc_read.nd)
    (ssx_one (sx_app (i := 2) (e_tupX (n_compX tk rfl sc_read.nd (i_seqB (xb (e_sl (e_varB 1) (o_some (xb (e_add (e_varB 3) (xb e_int)))) (o_some (xb (e_add (e_varB 3) (xb e_int))))))) (blkOk_by (own := [("word", 5)]) (by kernel_rfl)) rfl (fun _ _ _ _ _ => (g_nm sc_read.nd)) (fun _ _ _ _ _ _ => e_calY C_number_of hr (a_cons (e_var 5) a_nil))) bt.tuple))))
    (ssx_cons (sx_set (i := 4) sc_read.nd (e_tup2X (e_calX C_number_of tk hr (a_cons (e_ix (e_varB 1) (xb e_int)) a_nil)) (e_callT call_tuple_of ok_tup1 bt.tuple (ab1 (e_varB 2)))))
    (ssx_cons (sx_if (PW.pt (c_or (c_not (c_val (e_cal C_is_ground hr (a_cons (e_var 4) a_nil)))) (c_or1 (c_ne hr (xb (e_cal C_ground_text hr (a_cons (e_var 4) a_nil))) (e_varB 0))))) (ssx_one (sx_raise rfl tk EW.q EW.g EW.k EW.r1 EW.r2)) ssx_nil)
    (ssx_one (sx_lift (s_ret (e_var 4)))))))))))
abbrev s_l_found : Stmt := topS 30
def o_l_found : Nat → Bool := fun i => false
theorem sc_l_found : FnScope ["_law_text", "e", "_law_found_here", "_law_good"] ["_law_text"] (defScope s_l_found) := ⟨rfl, rfl, rfl, by decide +kernel, rfl, by decide +kernel, by decide +kernel⟩
theorem ok_l_found {P : Program} {w : World} {K : PySem.W.Frag} {mg : Str → Option Value} {base : Heap} {f : Addr} {fd : FuncData} (F : Fun K "_law_found" "_law_found" s_l_found f fd) (hf : mg "_law_found" = some (.ref f)) (bt : Bt mg) {cTwigError cNoGround cNoText cNoTree : Addr} (EW : ExcW K mg "NoText" cNoText) (k_TwigError : PySem.W.kitOne K (.ref cNoText) (.ref cTwigError) = some true) (k_ValueError : PySem.W.kitOne K (.ref cNoText) (.type "ValueError") = some true) (k_NoGround : PySem.W.kitOne K (.ref cNoText) (.ref cNoGround) = some false) (k_NoTree : PySem.W.kitOne K (.ref cNoText) (.ref cNoTree) = some false) (g_NoText : mg "NoText" = some (.ref cNoText)) (g_TwigError : mg "TwigError" = some (.ref cTwigError)) (g_NoGround : mg "NoGround" = some (.ref cNoGround)) (g_NoTree : mg "NoTree" = some (.ref cNoTree)) (m_NoText : PySem.W.exmOne K (.ref cNoText) (.ref cNoText) = some true) (C_read : CalX P w K mg base 5 "read" ["text"] cNoText G_read) : Cal P w K mg base 6 "_law_found" ["_law_text"] G_l_found := by
  refine ⟨f, fd, fn_run (k := 5) F sc_l_found (by decide) (own := o_l_found) (g := b_l_found) (fun _ _ h => h) (fun cdv A outer s H E hr => ?_), hf, F.kp, F.binds (ps := ["_law_text"]) fun _ _ _ _ _ _ us hl => match us, hl with | [_], _ => rfl⟩
  exact (ss_cons (s_tryAs (i := 1) (d0 := .none) rfl rfl sc_l_found.nd rfl rfl ⟨rfl, by decide, Or.inl EW.g⟩ m_NoText rfl (fun a => (sSeq (sSet 3 (xAnd (xIsE 1 a true) (xIsE 1 a true)))
    (sRet (x2 dIx (xLst (xCons (xTup xNil) (xCons (xC .none) xNil))) (xCall (on1 dInt1) (g1 (xAnd (xVar 3) (xAnd (x1 dNot (xIsE 1 a false)) (x1 dNot (xIsE 1 a false)))))))))) (N := 4) rfl (fun a => by simp [List.replicate, sSeq, sSet, sRet, xAnd, xIsE, xVar, x1, x2, dNot, dIx, xLst, xCons, xNil, xCall, on1, dInt1, xC, sIf, sNil]; try rfl) (fun Wx pn xe tk => (ssx_one (sx_set (i := 2) sc_l_found.nd (e_calX C_read tk hr (a_cons (e_var 0) a_nil))))) (fun a oe pn hz hf => (ss_cons (s_set (i := 3) sc_l_found.nd (e_and (e_isE EW.e hz hf (pe_glob (v := .ref cTwigError) rfl g_TwigError rfl) (fun u r => r) k_TwigError bt.isinstance) (e_one (e_isE EW.e hz hf (pe_bltn (v := .ty "ValueError") rfl bt.ValueError (by decide +kernel) rfl) (fun u r => r) k_ValueError bt.isinstance))))
    (ss_one (s_ret (e_ix (xb (xn (n_lst (a_cons (e_tup a_nil) (a_cons e_non a_nil))))) (xb (e_callT call_int1 ok_int1 bt.int (ab1 (xb (e_and (e_var 3) (e_and (e_not (e_isE EW.e hz hf (pe_glob (v := .ref cNoGround) rfl g_NoGround rfl) (fun u r => r) k_NoGround bt.isinstance)) (e_one (e_not (e_isE EW.e hz hf (pe_glob (v := .ref cNoTree) rfl g_NoTree rfl) (fun u r => r) k_NoTree bt.isinstance)))))))))))))))
    (ss_one (s_ret (e_ix (xb (xn (n_lst (a_cons (e_var 2) (a_cons (e_tup a_nil) a_nil))))) (xb (e_callT call_int1 ok_int1 bt.int (ab1 (xb (e_isN (e_varB 2) (xb e_non))))))))))
abbrev s_l_changed : Stmt := topS 27
def o_l_changed : Nat → Bool := fun i => false
theorem sc_l_changed : FnScope ["_law_text", "_law_number_here", "_law_words", "_law_at", "_law_place", "_law_kind", "_law_some", "_law_sign", "_law_moved"] ["_law_text", "_law_number_here"] (defScope s_l_changed) := ⟨rfl, rfl, rfl, by decide +kernel, rfl, by decide +kernel, by decide +kernel⟩
theorem ok_l_changed {P : Program} {w : World} {K : PySem.W.Frag} {mg : Str → Option Value} {base : Heap} {f : Addr} {fd : FuncData} (F : Fun K "_law_changed" "_law_changed" s_l_changed f fd) (hf : mg "_law_changed" = some (.ref f)) (bt : Bt mg) : Cal P w K mg base 1 "_law_changed" ["_law_text", "_law_number_here"] G_l_changed := by
  refine ⟨f, fd, fn_run (k := 0) F sc_l_changed (by decide) (own := o_l_changed) (g := b_l_changed) (fun _ _ h => h) (fun cdv A outer s H E hr => ?_), hf, F.kp, F.binds (ps := ["_law_text", "_law_number_here"]) fun _ _ _ _ _ _ us hl => match us, hl with | [_, _], _ => rfl⟩
  exact (ss_cons (s_set (i := 2) sc_l_changed.nd (xn (n_split (by decide) (e_varB 0))))
    (ss_cons (s_set (i := 3) sc_l_changed.nd (e_mod (xb (e_div (e_varB 1) (xb e_int))) (xb (e_callB call_len ok_len bt.len (ab1 (e_varB 2))))))
    (ss_cons (s_set (i := 4) sc_l_changed.nd (e_mod (xb (e_div (e_varB 1) (xb e_int))) (xb (e_add (xb (e_callB call_len ok_len bt.len (ab1 (e_varB 0)))) (xb e_int)))))
    (ss_cons (s_set (i := 5) sc_l_changed.nd (e_mod (e_varB 1) (xb e_int)))
    (ss_cons (s_if (c_eq hr (e_varB 5) (xb e_int)) (ss_one (s_ret (e_add (xb (e_sl (e_varB 0) o_none (o_some (e_varB 4)))) (xb (e_sl (e_varB 0) (o_some (xb (e_add (e_varB 4) (xb e_int)))) o_none))))) ss_nil)
    (ss_cons (s_if (c_lt hr (e_varB 5) (xb e_int)) (ss_cons (s_set (i := 7) sc_l_changed.nd (e_ix (xb e_str) (xb (e_mod (xb (e_div (e_varB 1) (xb e_int))) (xb e_int)))))
    (ss_one (s_ret (e_add (xb (e_add (xb (e_sl (e_varB 0) o_none (o_some (e_varB 4)))) (e_varB 7))) (xb (e_sl (e_varB 0) (o_some (xb (e_sub (xb (e_add (e_varB 4) (e_varB 5))) (xb e_int)))) o_none)))))) ss_nil)
    (ss_cons (s_if (c_eq hr (e_varB 5) (xb e_int)) (ss_one (s_ret (e_join (xb (e_add (xb (e_sl (e_varB 2) o_none (o_some (e_varB 3)))) (xb (e_sl (e_varB 2) (o_some (xb (e_add (e_varB 3) (xb e_int)))) o_none))))))) ss_nil)
    (ss_cons (s_if (c_eq hr (e_varB 5) (xb e_int)) (ss_one (s_ret (e_join (xb (e_add (xb (e_add (xb (e_sl (e_varB 2) o_none (o_some (e_varB 3)))) (xb (e_sl (e_varB 2) (o_some (e_varB 3)) (o_some (xb (e_add (e_varB 3) (xb e_int)))))))) (xb (e_sl (e_varB 2) (o_some (e_varB 3)) o_none))))))) ss_nil)
    (ss_cons (s_if (c_eq hr (e_varB 5) (xb e_int)) (ss_cons (s_set (i := 8) sc_l_changed.nd (e_add (xb (e_sl (e_varB 2) (o_some (xb (e_add (e_varB 3) (xb e_int)))) (o_some (xb (e_add (e_varB 3) (xb e_int)))))) (xb (e_sl (e_varB 2) (o_some (e_varB 3)) (o_some (xb (e_add (e_varB 3) (xb e_int))))))))
    (ss_one (s_ret (e_join (xb (e_add (xb (e_add (xb (e_sl (e_varB 2) o_none (o_some (e_varB 3)))) (e_varB 8))) (xb (e_sl (e_varB 2) (o_some (xb (e_add (e_varB 3) (xb e_int)))) o_none)))))))) ss_nil)
    (ss_cons (s_set (i := 6) sc_l_changed.nd (xn (n_split (by decide) (xb e_str))))
    (ss_one (s_ret (e_join (xb (e_add (xb (e_add (xb (e_sl (e_varB 2) o_none (o_some (e_varB 3)))) (xb (xn (n_lst (a_cons (e_ix (e_varB 6) (xb (e_mod (xb (e_div (e_varB 1) (xb e_int))) (xb e_int)))) a_nil)))))) (xb (e_sl (e_varB 2) (o_some (xb (e_add (e_varB 3) (xb e_int)))) o_none)))))))))))))))))
abbrev s_l_number_of : Stmt := topS 28
def o_l_number_of : Nat → Bool := fun i => false
theorem sc_l_number_of : FnScope ["_law_word", "_law_most", "_law_sign"] ["_law_word", "_law_most"] (defScope s_l_number_of) := ⟨rfl, rfl, rfl, by decide +kernel, rfl, by decide +kernel, by decide +kernel⟩
theorem ok_l_number_of {P : Program} {w : World} {K : PySem.W.Frag} {mg : Str → Option Value} {base : Heap} {f : Addr} {fd : FuncData} (F : Fun K "_law_number_of" "_law_number_of" s_l_number_of f fd) (hf : mg "_law_number_of" = some (.ref f)) (bt : Bt mg) : Cal P w K mg base 1 "_law_number_of" ["_law_word", "_law_most"] G_l_number_of := by
  refine ⟨f, fd, fn_run (k := 0) F sc_l_number_of (by decide) (own := o_l_number_of) (g := b_l_number_of) (fun _ _ h => h) (fun cdv A outer s H E hr => ?_), hf, F.kp, F.binds (ps := ["_law_word", "_law_most"]) fun _ _ _ _ _ _ us hl => match us, hl with | [_, _], _ => rfl⟩
  exact (ss_cons (s_if (PW.pt (c_or (c_not (c_chain op_le ok_le op_le ok_le (xb e_int) (xb (e_callB call_len ok_len bt.len (ab1 (e_varB 0)))) (e_varB 1))) (c_or1 (c_ne hr (xb (xn (n_comp rfl sc_l_number_of.nd (i_str (fz := false) (e_varB 0)) (blkOk_by (own := [("_law_sign", 2)]) (by kernel_rfl)) rfl (fun _ _ _ _ _ => (g_nm sc_l_number_of.nd)) (fun _ _ _ _ _ => (t_one (c_lt hr (xb (e_find (xb e_str) (e_varB 2))) (xb e_int)))) (fun _ _ _ _ _ => (e_var 2))))) (xb (xn (n_lst a_nil))))))) (ss_one (s_ret e_non)) ss_nil)
    (ss_one (s_ret (e_callT call_int_str ok_intS bt.int (ab1 (e_varB 0))))))
abbrev s_l_number : Stmt := topS 23
def o_l_number : Nat → Bool := fun i => false
theorem sc_l_number : FnScope ["_law_thing", "_law_low", "_law_high"] ["_law_thing", "_law_low", "_law_high"] (defScope s_l_number) := ⟨rfl, rfl, rfl, by decide +kernel, rfl, by decide +kernel, by decide +kernel⟩
theorem ok_l_number {P : Program} {w : World} {K : PySem.W.Frag} {mg : Str → Option Value} {base : Heap} {f : Addr} {fd : FuncData} (F : Fun K "_law_number" "_law_number" s_l_number f fd) (hf : mg "_law_number" = some (.ref f)) (bt : Bt mg) : Cal P w K mg base 1 "_law_number" ["_law_thing", "_law_low", "_law_high"] G_l_number := by
  refine ⟨f, fd, fn_run (k := 0) F sc_l_number (by decide) (own := o_l_number) (g := b_l_number) (fun _ _ h => h) (fun cdv A outer s H E hr => ?_), hf, F.kp, F.binds (ps := ["_law_thing", "_law_low", "_law_high"]) fun _ _ _ _ _ _ us hl => match us, hl with | [_, _, _], _ => rfl⟩
  exact (ss_one (s_ret (e_and (e_isi .int (e_varB 0) bt.isinstance bt.int) (e_and (e_not (e_isi .bool (e_varB 0) bt.isinstance bt.bool)) (e_one (e_chain op_le ok_le op_le ok_le (e_varB 1) (e_varB 0) (e_varB 2)))))))
abbrev s_l_is_ground : Stmt := topS 25
def o_l_is_ground : Nat → Bool := fun i => false
theorem sc_l_is_ground : FnScope ["_law_thing", "_law_line"] ["_law_thing"] (defScope s_l_is_ground) := ⟨rfl, rfl, rfl, by decide +kernel, rfl, by decide +kernel, by decide +kernel⟩
theorem ok_l_is_ground {P : Program} {w : World} {K : PySem.W.Frag} {mg : Str → Option Value} {base : Heap} {f : Addr} {fd : FuncData} (F : Fun K "_law_is_ground" "_law_is_ground" s_l_is_ground f fd) (hf : mg "_law_is_ground" = some (.ref f)) (bt : Bt mg) (C_l_number : Cal P w K mg base 1 "_law_number" ["_law_thing", "_law_low", "_law_high"] G_l_number) : Cal P w K mg base 2 "_law_is_ground" ["_law_thing"] G_l_is_ground := by
  refine ⟨f, fd, fn_run (k := 1) F sc_l_is_ground (by decide) (own := o_l_is_ground) (g := b_l_is_ground) (fun _ _ h => h) (fun cdv A outer s H E hr => ?_), hf, F.kp, F.binds (ps := ["_law_thing"]) fun _ _ _ _ _ _ us hl => match us, hl with | [_], _ => rfl⟩
  exact (ss_cons (s_if (PW.pt (c_or (c_not (c_val (e_isi .tuple (e_varB 0) bt.isinstance bt.tuple))) (c_or (c_ne hr (xb (e_callB call_len ok_len bt.len (ab1 (e_varB 0)))) (xb e_int)) (c_or1 (c_not (c_val (e_cal C_l_number hr (a_cons (e_ix (e_varB 0) (xb e_int)) (a_cons e_int (a_cons e_int a_nil)))))))))) (ss_one (s_ret e_bl)) ss_nil)
    (ss_cons (s_if (PW.pt (c_or (c_not (c_val (e_isi .tuple (xb (e_ix (e_varB 0) (xb e_int))) bt.isinstance bt.tuple))) (c_or1 (c_gt (xb (e_callB call_len ok_len bt.len (ab1 (xb (e_ix (e_varB 0) (xb e_int)))))) (xb e_int))))) (ss_one (s_ret e_bl)) ss_nil)
    (ss_cons (s_for rfl (i_seq (e_ix (e_varB 0) (xb e_int))) (g_nm sc_l_is_ground.nd)
    (ss_cons (s_if (PW.pt (c_or (c_not (c_val (e_isi .tuple (e_varB 1) bt.isinstance bt.tuple))) (c_or (c_ne hr (xb (e_callB call_len ok_len bt.len (ab1 (e_varB 1)))) (xb e_int)) (c_or1 (c_not (c_val (e_cal C_l_number hr (a_cons (e_ix (e_varB 1) (xb e_int)) (a_cons e_int (a_cons (e_sub (xb (e_ix (e_varB 0) (xb e_int))) (xb e_int)) a_nil)))))))))) (ss_one (s_ret e_bl)) ss_nil)
    (ss_one (s_if (PW.pt (c_or (c_not (c_val (e_cal C_l_number hr (a_cons (e_ix (e_varB 1) (xb e_int)) (a_cons e_int (a_cons (e_sub (xb (e_ix (e_varB 0) (xb e_int))) (xb e_int)) a_nil)))))) (c_or (c_geA hr (xb (e_ix (e_varB 1) (xb e_int))) (xb (e_ix (e_varB 1) (xb e_int)))) (c_or1 (c_not (c_val (e_cal C_l_number hr (a_cons (e_ix (e_varB 1) (xb e_int)) (a_cons e_int (a_cons e_int a_nil)))))))))) (ss_one (s_ret e_bl)) ss_nil))))
    (ss_one (s_ret e_bl)))))
abbrev s_l_due : Stmt := topS 29
def o_l_due : Nat → Bool := fun i => false
theorem sc_l_due : FnScope ["_law_text", "_law_words", "_law_lines", "_law_at", "_law_found_here", "_law_line", "_law_word"] ["_law_text"] (defScope s_l_due) := ⟨rfl, rfl, rfl, by decide +kernel, rfl, by decide +kernel, by decide +kernel⟩
theorem ok_l_due {P : Program} {w : World} {K : PySem.W.Frag} {mg : Str → Option Value} {base : Heap} {f : Addr} {fd : FuncData} (F : Fun K "_law_due" "_law_due" s_l_due f fd) (hf : mg "_law_due" = some (.ref f)) (bt : Bt mg) (C_l_number_of : Cal P w K mg base 1 "_law_number_of" ["_law_word", "_law_most"] G_l_number_of) (C_l_is_ground : Cal P w K mg base 2 "_law_is_ground" ["_law_thing"] G_l_is_ground) (C_l_written : Cal P w K mg base 1 "_law_written" ["_law_ground_here"] G_l_written) : Cal P w K mg base 3 "_law_due" ["_law_text"] G_l_due := by
  refine ⟨f, fd, fn_run (k := 2) F sc_l_due (by decide) (own := o_l_due) (g := b_l_due) (fun _ _ h => h) (fun cdv A outer s H E hr => ?_), hf, F.kp, F.binds (ps := ["_law_text"]) fun _ _ _ _ _ _ us hl => match us, hl with | [_], _ => rfl⟩
  exact (ss_cons (s_set (i := 1) sc_l_due.nd (xn (n_split (by decide) (e_varB 0))))
    (ss_cons (s_if (PW.pt (c_or (c_ne hr (xb (e_mod (xb (e_callB call_len ok_len bt.len (ab1 (e_varB 1)))) (xb e_int))) (xb e_int)) (c_or1 (c_ne hr (xb (e_ix (e_varB 1) (xb e_int))) (xb e_str))))) (ss_one (s_ret e_non)) ss_nil)
    (ss_cons (s_set (i := 2) sc_l_due.nd (e_tup a_nil))
    (ss_cons (s_for rfl (i_r3 (fz := true) bt.range e_int (e_callB call_len ok_len bt.len (ab1 (e_varB 1))) e_int) (g_nm sc_l_due.nd)
    (ss_cons (s_set (i := 5) sc_l_due.nd (e_callT call_tuple_of ok_tup1 bt.tuple (ab1 (xb (xn (n_comp rfl sc_l_due.nd (i_seqB (xb (e_sl (e_varB 1) (o_some (xb (e_add (e_varB 3) (xb e_int)))) (o_some (xb (e_add (e_varB 3) (xb e_int))))))) (blkOk_by (own := [("_law_word", 6)]) (by kernel_rfl)) rfl (fun _ _ _ _ _ => (g_nm sc_l_due.nd)) (fun _ _ _ _ _ => t_yes) (fun _ _ _ _ _ => (e_cal C_l_number_of hr (a_cons (e_var 6) (a_cons e_int a_nil))))))))))
    (ss_cons (s_if (PW.pt (c_or (c_ne hr (xb (e_ix (e_varB 1) (e_varB 3))) (xb e_str)) (c_or1 (c_in hr (xb e_non) (e_varB 5))))) (ss_one (s_ret e_non)) ss_nil)
    (ss_one (s_set (i := 2) sc_l_due.nd (e_add (e_varB 2) (xb (e_tup (a_cons (e_var 5) a_nil)))))))))
    (ss_cons (s_set (i := 4) sc_l_due.nd (e_tup (a_cons (e_cal C_l_number_of hr (a_cons (e_ix (e_varB 1) (xb e_int)) (a_cons e_int a_nil))) (a_cons (e_var 2) a_nil))))
    (ss_cons (s_if (PW.pt (c_or (c_not (c_val (e_cal C_l_is_ground hr (a_cons (e_var 4) a_nil)))) (c_or1 (c_ne hr (xb (e_cal C_l_written hr (a_cons (e_var 4) a_nil))) (e_varB 0))))) (ss_one (s_ret e_non)) ss_nil)
    (ss_one (s_ret (e_var 4)))))))))
def b_law : Sx := (sSeq (sSet 1 (xCall G_l_ground (xCons (xCall G_l_mixed (xCons (xVar 0) (xCons (xC (.int 0)) xNil))) (xCons (xC (.int 7)) (xCons (xC (.int 12)) xNil)))))
    (sSeq (sSet 2 (xCall G_l_mixed (xCons (xVar 0) (xCons (xC (.int 1)) xNil))))
    (sSeq (sIf (xAnd (x2 dEq (x2 dMod (x2 dDiv (xVar 2) (xC (.int 3))) (xC (.int 8))) (xC (.int 5))) (x2 dNe (x2 dIx (xVar 1) (xC (.int 1))) (xTup xNil))) (sSet 1 (xTup (xCons (x2 dIx (xVar 1) (xC (.int 0))) (xCons (xSl (x2 dMul (x2 dIx (xVar 1) (xC (.int 1))) (xC (.int 23))) none (some (x2 dAdd (xC (.int 20)) (x2 dMod (x2 dDiv (xVar 2) (xC (.int 24))) (xC (.int 4)))))) xNil)))) sNil)
    (sSeq (sSet 3 (xCall G_l_written (xCons (xVar 1) xNil)))
    (sSeq (sFor (iR1 (x2 dMul (x2 dMod (xVar 2) (xC (.int 3))) (x2 dAdd (xC (.int 1)) (x2 dMod (x2 dDiv (xVar 2) (xC (.int 96))) (xC (.int 2)))))) (gNm 4)
    (sSet 3 (xCall G_l_changed (xCons (xVar 3) (xCons (xCall G_l_drawn (xCons (xVar 2) (xCons (xVar 4) xNil))) xNil)))))
    (sSeq (sSet 5 (xCall G_l_found (xCons (xVar 3) xNil)))
    (sRet (xAnd (x2 dEq (xVar 5) (xCall G_l_due (xCons (xVar 3) xNil))) (xOr (x2 (dIs false) (xVar 5) (xC .none)) (xCall G_l_is_ground (xCons (xVar 5) xNil)))))))))))
def G_law : List D → Option D := runB 6 1 b_law
abbrev s_law : Stmt := topS 31
def o_law : Nat → Bool := fun i => false
theorem sc_law : FnScope ["_law_script", "_law_ground_here", "_law_number_here", "_law_text", "_law_k", "_law_found_here"] ["_law_script"] (defScope s_law) := ⟨rfl, rfl, rfl, by decide +kernel, rfl, by decide +kernel, by decide +kernel⟩
theorem ok_law_fn {P : Program} {w : World} {K : PySem.W.Frag} {mg : Str → Option Value} {base : Heap} {f : Addr} {fd : FuncData} (F : Fun K "law" "law" s_law f fd) (hf : mg "law" = some (.ref f)) (bt : Bt mg) (C_l_ground : Cal P w K mg base 2 "_law_ground" ["_law_number_here", "_law_most", "_law_lines"] G_l_ground) (C_l_mixed : Cal P w K mg base 2 "_law_mixed" ["_law_script", "_law_k"] G_l_mixed) (C_l_written : Cal P w K mg base 1 "_law_written" ["_law_ground_here"] G_l_written) (C_l_found : Cal P w K mg base 6 "_law_found" ["_law_text"] G_l_found) (C_l_changed : Cal P w K mg base 1 "_law_changed" ["_law_text", "_law_number_here"] G_l_changed) (C_l_drawn : Cal P w K mg base 1 "_law_drawn" ["_law_number_here", "_law_k"] G_l_drawn) (C_l_due : Cal P w K mg base 3 "_law_due" ["_law_text"] G_l_due) (C_l_is_ground : Cal P w K mg base 2 "_law_is_ground" ["_law_thing"] G_l_is_ground) : FnOk P w K mg base CX0 7 f fd ["_law_script"] (spG K G_law) := by
  refine fn_run (k := 6) F sc_law (by decide) (own := o_law) (g := b_law) (fun _ _ h => h) (fun cdv A outer s H E hr => ?_)
  exact (ss_cons (s_set (i := 1) sc_law.nd (e_cal C_l_ground hr (a_cons (e_cal C_l_mixed hr (a_cons (e_var 0) (a_cons e_int a_nil))) (a_cons e_int (a_cons e_int a_nil)))))
    (ss_cons (s_set (i := 2) sc_law.nd (e_cal C_l_mixed hr (a_cons (e_var 0) (a_cons e_int a_nil))))
    (ss_cons (s_if (PW.pt (c_and (c_eq hr (xb (e_mod (xb (e_div (e_varB 2) (xb e_int))) (xb e_int))) (xb e_int)) (c_and1 (c_ne hr (xb (e_ix (e_varB 1) (xb e_int))) (xb (e_tup a_nil)))))) (ss_one (s_set (i := 1) sc_law.nd (e_tup (a_cons (e_ix (e_varB 1) (xb e_int)) (a_cons (e_sl (xb (e_mul (xb (e_ix (e_varB 1) (xb e_int))) (xb e_int))) o_none (o_some (xb (e_add (xb e_int) (xb (e_mod (xb (e_div (e_varB 2) (xb e_int))) (xb e_int))))))) a_nil))))) ss_nil)
    (ss_cons (s_set (i := 3) sc_law.nd (e_cal C_l_written hr (a_cons (e_var 1) a_nil)))
    (ss_cons (s_for rfl (i_r1 (fz := true) bt.range (e_mul (xb (e_mod (e_varB 2) (xb e_int))) (xb (e_add (xb e_int) (xb (e_mod (xb (e_div (e_varB 2) (xb e_int))) (xb e_int))))))) (g_nm sc_law.nd)
    (ss_one (s_set (i := 3) sc_law.nd (e_cal C_l_changed hr (a_cons (e_var 3) (a_cons (e_cal C_l_drawn hr (a_cons (e_var 2) (a_cons (e_var 4) a_nil))) a_nil))))))
    (ss_cons (s_set (i := 5) sc_law.nd (e_cal C_l_found hr (a_cons (e_var 3) a_nil)))
    (ss_one (s_ret (e_and (e_eq hr (e_varB 5) (xb (e_cal C_l_due hr (a_cons (e_var 3) a_nil)))) (e_one (e_or (e_isN (e_varB 5) (xb e_non)) (e_one (e_cal C_l_is_ground hr (a_cons (e_var 5) a_nil))))))))))))))
theorem all_mk {l : PySem.W.OpenLaw} {w : World} {K : PySem.W.Frag} {h : Heap} {mg : Str → Option Value} {fa cTwigError cNoGround cNoText cNoTree f0 f1 f2 f3 f4 f5 f6 f7 f8 f9 f10 f11 f12 f13 f14 f15 f16 f17 f18 : Addr} (X : K.In h) (G : h.Ns mainGlobals mg) (hfa : mg "law" = some (.ref fa))
  {od0 an0 : Option Addr} {sl0 : Array (Option Value)} {oc0 kV0 dc0 pm0 cd0 ct0 : Value} {od1 an1 : Option Addr} {sl1 : Array (Option Value)} {oc1 kV1 dc1 pm1 cd1 ct1 : Value} {od2 an2 : Option Addr} {sl2 : Array (Option Value)} {oc2 kV2 dc2 pm2 cd2 ct2 : Value} {od3 an3 : Option Addr} {sl3 : Array (Option Value)} {oc3 kV3 dc3 pm3 cd3 ct3 : Value} {od4 an4 : Option Addr} {sl4 : Array (Option Value)} {oc4 kV4 dc4 pm4 cd4 ct4 : Value} {od5 an5 : Option Addr} {sl5 : Array (Option Value)} {oc5 kV5 dc5 pm5 cd5 ct5 : Value} {od6 an6 : Option Addr} {sl6 : Array (Option Value)} {oc6 kV6 dc6 pm6 cd6 ct6 : Value} {od7 an7 : Option Addr} {sl7 : Array (Option Value)} {oc7 kV7 dc7 pm7 cd7 ct7 : Value} {od8 an8 : Option Addr} {sl8 : Array (Option Value)} {oc8 kV8 dc8 pm8 cd8 ct8 : Value} {od9 an9 : Option Addr} {sl9 : Array (Option Value)} {oc9 kV9 dc9 pm9 cd9 ct9 : Value} {od10 an10 : Option Addr} {sl10 : Array (Option Value)} {oc10 kV10 dc10 pm10 cd10 ct10 : Value} {od11 an11 : Option Addr} {sl11 : Array (Option Value)} {oc11 kV11 dc11 pm11 cd11 ct11 : Value} {od12 an12 : Option Addr} {sl12 : Array (Option Value)} {oc12 kV12 dc12 pm12 cd12 ct12 : Value} {od13 an13 : Option Addr} {sl13 : Array (Option Value)} {oc13 kV13 dc13 pm13 cd13 ct13 : Value} {od14 an14 : Option Addr} {sl14 : Array (Option Value)} {oc14 kV14 dc14 pm14 cd14 ct14 : Value} {od15 an15 : Option Addr} {sl15 : Array (Option Value)} {oc15 kV15 dc15 pm15 cd15 ct15 : Value} {od16 an16 : Option Addr} {sl16 : Array (Option Value)} {oc16 kV16 dc16 pm16 cd16 ct16 : Value} {od17 an17 : Option Addr} {sl17 : Array (Option Value)} {oc17 kV17 dc17 pm17 cd17 ct17 : Value} {od18 an18 : Option Addr} {sl18 : Array (Option Value)} {oc18 kV18 dc18 pm18 cd18 ct18 : Value}
  (a0 : PySem.W.nsIn K mainGlobals "_law_drawn" = some (some (.ref f0))) (l0 : K.lookup f0 = some ⟨oc0, od0, .func (PySem.W.fnOf "_law_drawn" "_law_drawn" (defArgs s_l_drawn) (defBody s_l_drawn) (defScope s_l_drawn) .none kV0 dc0 pm0 an0 cd0 ct0), sl0⟩) (c0 : PySem.W.codeIn K cd0 "_law_drawn" = true) (k0 : PySem.W.keepIn K (.ref f0) = true)
  (a1 : PySem.W.nsIn K mainGlobals "_law_ground" = some (some (.ref f1))) (l1 : K.lookup f1 = some ⟨oc1, od1, .func (PySem.W.fnOf "_law_ground" "_law_ground" (defArgs s_l_ground) (defBody s_l_ground) (defScope s_l_ground) .none kV1 dc1 pm1 an1 cd1 ct1), sl1⟩) (c1 : PySem.W.codeIn K cd1 "_law_ground" = true) (k1 : PySem.W.keepIn K (.ref f1) = true)
  (a2 : PySem.W.nsIn K mainGlobals "_law_cell_at" = some (some (.ref f2))) (l2 : K.lookup f2 = some ⟨oc2, od2, .func (PySem.W.fnOf "_law_cell_at" "_law_cell_at" (defArgs s_l_cell_at) (defBody s_l_cell_at) (defScope s_l_cell_at) .none kV2 dc2 pm2 an2 cd2 ct2), sl2⟩) (c2 : PySem.W.codeIn K cd2 "_law_cell_at" = true) (k2 : PySem.W.keepIn K (.ref f2) = true)
  (a3 : PySem.W.nsIn K mainGlobals "_law_mixed" = some (some (.ref f3))) (l3 : K.lookup f3 = some ⟨oc3, od3, .func (PySem.W.fnOf "_law_mixed" "_law_mixed" (defArgs s_l_mixed) (defBody s_l_mixed) (defScope s_l_mixed) .none kV3 dc3 pm3 an3 cd3 ct3), sl3⟩) (c3 : PySem.W.codeIn K cd3 "_law_mixed" = true) (k3 : PySem.W.keepIn K (.ref f3) = true)
  (a4 : PySem.W.nsIn K mainGlobals "_law_written" = some (some (.ref f4))) (l4 : K.lookup f4 = some ⟨oc4, od4, .func (PySem.W.fnOf "_law_written" "_law_written" (defArgs s_l_written) (defBody s_l_written) (defScope s_l_written) .none kV4 dc4 pm4 an4 cd4 ct4), sl4⟩) (c4 : PySem.W.codeIn K cd4 "_law_written" = true) (k4 : PySem.W.keepIn K (.ref f4) = true)
  (a5 : PySem.W.nsIn K mainGlobals "number_of" = some (some (.ref f5))) (l5 : K.lookup f5 = some ⟨oc5, od5, .func (PySem.W.fnOf "number_of" "number_of" (defArgs s_number_of) (defBody s_number_of) (defScope s_number_of) .none kV5 dc5 pm5 an5 cd5 ct5), sl5⟩) (c5 : PySem.W.codeIn K cd5 "number_of" = true) (k5 : PySem.W.keepIn K (.ref f5) = true)
  (a6 : PySem.W.nsIn K mainGlobals "is_number" = some (some (.ref f6))) (l6 : K.lookup f6 = some ⟨oc6, od6, .func (PySem.W.fnOf "is_number" "is_number" (defArgs s_is_number) (defBody s_is_number) (defScope s_is_number) .none kV6 dc6 pm6 an6 cd6 ct6), sl6⟩) (c6 : PySem.W.codeIn K cd6 "is_number" = true) (k6 : PySem.W.keepIn K (.ref f6) = true)
  (a7 : PySem.W.nsIn K mainGlobals "is_pair" = some (some (.ref f7))) (l7 : K.lookup f7 = some ⟨oc7, od7, .func (PySem.W.fnOf "is_pair" "is_pair" (defArgs s_is_pair) (defBody s_is_pair) (defScope s_is_pair) .none kV7 dc7 pm7 an7 cd7 ct7), sl7⟩) (c7 : PySem.W.codeIn K cd7 "is_pair" = true) (k7 : PySem.W.keepIn K (.ref f7) = true)
  (a8 : PySem.W.nsIn K mainGlobals "is_line" = some (some (.ref f8))) (l8 : K.lookup f8 = some ⟨oc8, od8, .func (PySem.W.fnOf "is_line" "is_line" (defArgs s_is_line) (defBody s_is_line) (defScope s_is_line) .none kV8 dc8 pm8 an8 cd8 ct8), sl8⟩) (c8 : PySem.W.codeIn K cd8 "is_line" = true) (k8 : PySem.W.keepIn K (.ref f8) = true)
  (a9 : PySem.W.nsIn K mainGlobals "is_ground" = some (some (.ref f9))) (l9 : K.lookup f9 = some ⟨oc9, od9, .func (PySem.W.fnOf "is_ground" "is_ground" (defArgs s_is_ground) (defBody s_is_ground) (defScope s_is_ground) .none kV9 dc9 pm9 an9 cd9 ct9), sl9⟩) (c9 : PySem.W.codeIn K cd9 "is_ground" = true) (k9 : PySem.W.keepIn K (.ref f9) = true)
  (a10 : PySem.W.nsIn K mainGlobals "ground_text" = some (some (.ref f10))) (l10 : K.lookup f10 = some ⟨oc10, od10, .func (PySem.W.fnOf "ground_text" "ground_text" (defArgs s_ground_text) (defBody s_ground_text) (defScope s_ground_text) .none kV10 dc10 pm10 an10 cd10 ct10), sl10⟩) (c10 : PySem.W.codeIn K cd10 "ground_text" = true) (k10 : PySem.W.keepIn K (.ref f10) = true)
  (a11 : PySem.W.nsIn K mainGlobals "read" = some (some (.ref f11))) (l11 : K.lookup f11 = some ⟨oc11, od11, .func (PySem.W.fnOf "read" "read" (defArgs s_read) (defBody s_read) (defScope s_read) .none kV11 dc11 pm11 an11 cd11 ct11), sl11⟩) (c11 : PySem.W.codeIn K cd11 "read" = true) (k11 : PySem.W.keepIn K (.ref f11) = true)
  (a12 : PySem.W.nsIn K mainGlobals "_law_found" = some (some (.ref f12))) (l12 : K.lookup f12 = some ⟨oc12, od12, .func (PySem.W.fnOf "_law_found" "_law_found" (defArgs s_l_found) (defBody s_l_found) (defScope s_l_found) .none kV12 dc12 pm12 an12 cd12 ct12), sl12⟩) (c12 : PySem.W.codeIn K cd12 "_law_found" = true) (k12 : PySem.W.keepIn K (.ref f12) = true)
  (a13 : PySem.W.nsIn K mainGlobals "_law_changed" = some (some (.ref f13))) (l13 : K.lookup f13 = some ⟨oc13, od13, .func (PySem.W.fnOf "_law_changed" "_law_changed" (defArgs s_l_changed) (defBody s_l_changed) (defScope s_l_changed) .none kV13 dc13 pm13 an13 cd13 ct13), sl13⟩) (c13 : PySem.W.codeIn K cd13 "_law_changed" = true) (k13 : PySem.W.keepIn K (.ref f13) = true)
  (a14 : PySem.W.nsIn K mainGlobals "_law_number_of" = some (some (.ref f14))) (l14 : K.lookup f14 = some ⟨oc14, od14, .func (PySem.W.fnOf "_law_number_of" "_law_number_of" (defArgs s_l_number_of) (defBody s_l_number_of) (defScope s_l_number_of) .none kV14 dc14 pm14 an14 cd14 ct14), sl14⟩) (c14 : PySem.W.codeIn K cd14 "_law_number_of" = true) (k14 : PySem.W.keepIn K (.ref f14) = true)
  (a15 : PySem.W.nsIn K mainGlobals "_law_number" = some (some (.ref f15))) (l15 : K.lookup f15 = some ⟨oc15, od15, .func (PySem.W.fnOf "_law_number" "_law_number" (defArgs s_l_number) (defBody s_l_number) (defScope s_l_number) .none kV15 dc15 pm15 an15 cd15 ct15), sl15⟩) (c15 : PySem.W.codeIn K cd15 "_law_number" = true) (k15 : PySem.W.keepIn K (.ref f15) = true)
  (a16 : PySem.W.nsIn K mainGlobals "_law_is_ground" = some (some (.ref f16))) (l16 : K.lookup f16 = some ⟨oc16, od16, .func (PySem.W.fnOf "_law_is_ground" "_law_is_ground" (defArgs s_l_is_ground) (defBody s_l_is_ground) (defScope s_l_is_ground) .none kV16 dc16 pm16 an16 cd16 ct16), sl16⟩) (c16 : PySem.W.codeIn K cd16 "_law_is_ground" = true) (k16 : PySem.W.keepIn K (.ref f16) = true)
  (a17 : PySem.W.nsIn K mainGlobals "_law_due" = some (some (.ref f17))) (l17 : K.lookup f17 = some ⟨oc17, od17, .func (PySem.W.fnOf "_law_due" "_law_due" (defArgs s_l_due) (defBody s_l_due) (defScope s_l_due) .none kV17 dc17 pm17 an17 cd17 ct17), sl17⟩) (c17 : PySem.W.codeIn K cd17 "_law_due" = true) (k17 : PySem.W.keepIn K (.ref f17) = true)
  (a18 : PySem.W.nsIn K mainGlobals "law" = some (some (.ref f18))) (l18 : K.lookup f18 = some ⟨oc18, od18, .func (PySem.W.fnOf "law" "law" (defArgs s_law) (defBody s_law) (defScope s_law) .none kV18 dc18 pm18 an18 cd18 ct18), sl18⟩) (c18 : PySem.W.codeIn K cd18 "law" = true) (k18 : PySem.W.keepIn K (.ref f18) = true)
  (n_TwigError : PySem.W.nsIn K mainGlobals "TwigError" = some (some (.ref cTwigError))) (n_NoGround : PySem.W.nsIn K mainGlobals "NoGround" = some (some (.ref cNoGround))) (n_NoText : PySem.W.nsIn K mainGlobals "NoText" = some (some (.ref cNoText))) (n_NoTree : PySem.W.nsIn K mainGlobals "NoTree" = some (some (.ref cNoTree))) (x_q : PySem.W.excIn K cNoText [.type "ValueError", .type "Exception", .type "BaseException", .type "object"] "ValueError.__new__" = true) (x_k : PySem.W.keepIn K (.ref cNoText) = true) (x_r1 : PySem.W.subIn K (.ref cNoText) (.type "BaseException") = some true) (x_r2 : PySem.W.typeIn K (.ref cNoText) = some (.type "type")) (x_hg : PySem.W.findIn K (.ref cNoText) "__getattribute__" = some (some (.builtin "BaseException.__getattribute__"))) (x_hk : PySem.W.findIn K (.ref cNoText) "__getattr__" = some none) (x_hd : PySem.W.hasDictIn K cNoText = true) (x_ha : PySem.W.findIn K (.ref cNoText) "__class__" = some (some (.builtin "object.__class__"))) (x_hn : PySem.W.specialIn K (.builtin "object.__class__") "__get__" = some (some (.builtin "getset_descriptor.__get__"))) (x_ht : PySem.W.takesIn K (.builtin "object.__class__") = some true) (x_hm : PySem.W.mroIn K cNoText (.type "object") = some true) (s_NoText : PySem.W.subIn K (.ref cNoText) (.ref cNoText) = some true) (s_TwigError : PySem.W.subIn K (.ref cNoText) (.ref cTwigError) = some true) (d_TwigError : PySem.W.hasDictIn K cTwigError = true) (t_TwigError : PySem.W.typeIn K (.ref cTwigError) = some (.type "type")) (s_ValueError : PySem.W.subIn K (.ref cNoText) (.type "ValueError") = some true) (s_NoGround : PySem.W.subIn K (.ref cNoText) (.ref cNoGround) = some false) (d_NoGround : PySem.W.hasDictIn K cNoGround = true) (t_NoGround : PySem.W.typeIn K (.ref cNoGround) = some (.type "type")) (s_NoTree : PySem.W.subIn K (.ref cNoText) (.ref cNoTree) = some false) (d_NoTree : PySem.W.hasDictIn K cNoTree = true) (t_NoTree : PySem.W.typeIn K (.ref cNoTree) = some (.type "type")) (d_NoText : PySem.W.hasDictIn K cNoText = true) (t_NoText : PySem.W.typeIn K (.ref cNoText) = some (.type "type")) (b_NoText : PySem.W.subIn K (.ref cNoText) (.type "BaseException") = some true)
  (z0 : PySem.W.nsIn K mainGlobals "len" = some none) (z1 : PySem.W.nsIn K mainGlobals "isinstance" = some none) (z2 : PySem.W.nsIn K mainGlobals "int" = some none) (z3 : PySem.W.nsIn K mainGlobals "bool" = some none) (z4 : PySem.W.nsIn K mainGlobals "str" = some none) (z5 : PySem.W.nsIn K mainGlobals "tuple" = some none) (z6 : PySem.W.nsIn K mainGlobals "list" = some none) (z7 : PySem.W.nsIn K mainGlobals "set" = some none) (z8 : PySem.W.nsIn K mainGlobals "range" = some none) (z9 : PySem.W.nsIn K mainGlobals "zip" = some none) (z10 : PySem.W.nsIn K mainGlobals "enumerate" = some none) (z11 : PySem.W.nsIn K mainGlobals "sorted" = some none) (z12 : PySem.W.nsIn K mainGlobals "all" = some none) (z13 : PySem.W.nsIn K mainGlobals "any" = some none) (z14 : PySem.W.nsIn K mainGlobals "sum" = some none) (z15 : PySem.W.nsIn K mainGlobals "min" = some none) (z16 : PySem.W.nsIn K mainGlobals "max" = some none) (z17 : PySem.W.nsIn K mainGlobals "ValueError" = some none)
  {t_FIGURES : Tok} (y_FIGURES : PySem.W.nsIn K mainGlobals "FIGURES" = some (some (.str "0123456789" t_FIGURES))) {t_LONGEST : Tok} (y_LONGEST : PySem.W.nsIn K mainGlobals "LONGEST" = some (some (.int 1000 t_LONGEST))) {t_LINES : Tok} (y_LINES : PySem.W.nsIn K mainGlobals "LINES" = some (some (.int 21 t_LINES))) {t_SPOTS : Tok} (y_SPOTS : PySem.W.nsIn K mainGlobals "SPOTS" = some (some (.int 7 t_SPOTS))) :
  ∃ fd : FuncData, (∀ (s : Shared) (v : Value), BindsTo s fd ⟨[v], []⟩ [("_law_script", v)]) ∧ ∀ base : Heap, K.In base → base.Ns mainGlobals mg → FnOk l.prog w K mg base CX0 7 fa fd ["_law_script"] (spG K G_law) := by
  have e := hfa.symm.trans (PySem.W.mg_of X G a18)
  cases e
  have bt : Bt mg := bt_of X G z0 z1 z2 z3 z4 z5 z6 z7 z8 z9 z10 z11 z12 z13 z14 z15 z16 z17
  have EW : ExcW K mg "NoText" cNoText := ⟨PySem.W.mg_of X G n_NoText, x_q, x_k, x_r1, x_r2, ⟨x_hg, x_hk, x_r1, x_hd, x_ha, x_hn, x_ht, x_hm⟩⟩
  have k_TwigError := kit_ref d_TwigError t_TwigError s_TwigError s_NoText
  have k_ValueError := kit_ty (K := K) (by decide +kernel) s_ValueError
  have k_NoGround := kit_ref d_NoGround t_NoGround s_NoGround s_NoText
  have k_NoTree := kit_ref d_NoTree t_NoTree s_NoTree s_NoText
  have g_NoText := PySem.W.mg_of X G n_NoText
  have g_TwigError := PySem.W.mg_of X G n_TwigError
  have g_NoGround := PySem.W.mg_of X G n_NoGround
  have g_NoTree := PySem.W.mg_of X G n_NoTree
  have m_NoText := PySem.W.exm_ref b_NoText d_NoText t_NoText s_NoText
  have c_FIGURES := PySem.W.mg_of X G y_FIGURES
  have c_LONGEST := PySem.W.mg_of X G y_LONGEST
  have c_LINES := PySem.W.mg_of X G y_LINES
  have c_SPOTS := PySem.W.mg_of X G y_SPOTS
  refine ⟨PySem.W.fnOf "law" "law" (defArgs s_law) (defBody s_law) (defScope s_law) .none kV18 dc18 pm18 an18 cd18 ct18, fun s v => .of_eq rfl, fun base _ _ => ?_⟩
  have C_l_drawn := ok_l_drawn (P := l.prog) (w := w) (base := base) (fun_mk (st := s_l_drawn) l0 c0 k0) (PySem.W.mg_of X G a0) bt
  have C_l_ground := ok_l_ground (P := l.prog) (w := w) (base := base) (fun_mk (st := s_l_ground) l1 c1 k1) (PySem.W.mg_of X G a1) bt C_l_drawn
  have C_l_cell_at := ok_l_cell_at (P := l.prog) (w := w) (base := base) (fun_mk (st := s_l_cell_at) l2 c2 k2) (PySem.W.mg_of X G a2) bt
  have C_l_mixed := ok_l_mixed (P := l.prog) (w := w) (base := base) (fun_mk (st := s_l_mixed) l3 c3 k3) (PySem.W.mg_of X G a3) bt C_l_cell_at
  have C_l_written := ok_l_written (P := l.prog) (w := w) (base := base) (fun_mk (st := s_l_written) l4 c4 k4) (PySem.W.mg_of X G a4) bt
  have C_number_of := ok_number_of (P := l.prog) (w := w) (base := base) (fun_mk (st := s_number_of) l5 c5 k5) (PySem.W.mg_of X G a5) bt EW c_FIGURES
  have C_is_number := ok_is_number (P := l.prog) (w := w) (base := base) (fun_mk (st := s_is_number) l6 c6 k6) (PySem.W.mg_of X G a6) bt
  have C_is_pair := ok_is_pair (P := l.prog) (w := w) (base := base) (fun_mk (st := s_is_pair) l7 c7 k7) (PySem.W.mg_of X G a7) bt C_is_number
  have C_is_line := ok_is_line (P := l.prog) (w := w) (base := base) (fun_mk (st := s_is_line) l8 c8 k8) (PySem.W.mg_of X G a8) bt C_is_number C_is_pair c_LONGEST
  have C_is_ground := ok_is_ground (P := l.prog) (w := w) (base := base) (fun_mk (st := s_is_ground) l9 c9 k9) (PySem.W.mg_of X G a9) bt C_is_number C_is_line c_LINES c_SPOTS
  have C_ground_text := ok_ground_text (P := l.prog) (w := w) (base := base) (fun_mk (st := s_ground_text) l10 c10 k10) (PySem.W.mg_of X G a10) bt
  have C_read := ok_read (P := l.prog) (w := w) (base := base) (fun_mk (st := s_read) l11 c11 k11) (PySem.W.mg_of X G a11) bt EW C_number_of C_is_ground C_ground_text
  have C_l_found := ok_l_found (P := l.prog) (w := w) (base := base) (fun_mk (st := s_l_found) l12 c12 k12) (PySem.W.mg_of X G a12) bt EW k_TwigError k_ValueError k_NoGround k_NoTree g_NoText g_TwigError g_NoGround g_NoTree m_NoText C_read
  have C_l_changed := ok_l_changed (P := l.prog) (w := w) (base := base) (fun_mk (st := s_l_changed) l13 c13 k13) (PySem.W.mg_of X G a13) bt
  have C_l_number_of := ok_l_number_of (P := l.prog) (w := w) (base := base) (fun_mk (st := s_l_number_of) l14 c14 k14) (PySem.W.mg_of X G a14) bt
  have C_l_number := ok_l_number (P := l.prog) (w := w) (base := base) (fun_mk (st := s_l_number) l15 c15 k15) (PySem.W.mg_of X G a15) bt
  have C_l_is_ground := ok_l_is_ground (P := l.prog) (w := w) (base := base) (fun_mk (st := s_l_is_ground) l16 c16 k16) (PySem.W.mg_of X G a16) bt C_l_number
  have C_l_due := ok_l_due (P := l.prog) (w := w) (base := base) (fun_mk (st := s_l_due) l17 c17 k17) (PySem.W.mg_of X G a17) bt C_l_number_of C_l_is_ground C_l_written
  exact ok_law_fn (P := l.prog) (w := w) (base := base) (fun_mk (st := s_law) l18 c18 k18) (PySem.W.mg_of X G a18) bt C_l_ground C_l_mixed C_l_written C_l_found C_l_changed C_l_drawn C_l_due C_l_is_ground
local macro_rules | `(tactic| walk_at "run") => `(tactic| simp (disch := (first | omega | (simp only [List.length_map, List.length_append, List.length_cons, List.length_nil, labD_len, rng_lng, cut_len, List.length_drop, List.length_take]; omega))) only [ite_self, at0, at1, at2, isi_tt, isi_tl, isi_ti, isi_ii, isi_it, isi_bb, Bool.not_true, Bool.not_false, Bool.true_or, Bool.false_or, Bool.true_and, Bool.false_and, Bool.and_true, Bool.or_false, Bool.and_false, Bool.or_true, labD_at, r_wipe0, r_wipe1, r_wipe2, r_wipe3, r_appE, appD_l, dAddL', dAddT', ite_or, ite_and, r_run0, r_run1, r_run2, r_run3, r_run4, r_and, r_or, r_if, r_seq, r_1, r_2, r_c, r_call, r_cons, r_nil, r_ret, r_set, r_snil, r_asg, r_on1, r_tup0, r_tup1, r_tup2, r_tup3, r_tup4, r_tup5, r_tup6, r_lst0, r_lst1, r_lst2, r_lst3, r_lst4, r_lst5, r_lst6, r_sl, r_pn, r_ps, r_nm, r_int, r_v0, r_vs, r_rtO,
  andO_b, orO_b, ifO_b, seqO_nx, seqO_rt, seqO_ite, outD_ite, o_bind, o_map, List.map_cons, List.map_nil, List.length_cons, List.length_nil, List.cons_append, List.nil_append, List.set_cons_zero, List.set_cons_succ, Nat.reduceAdd, Nat.reduceSub, Nat.zero_add,
  List.replicate_succ, List.replicate_zero, dAdd_i, dSub_i, dNeg_i, dNot_b, dLt_i, dLe_i, dGt_i, dGe_i, dGeA_i, dMul_i, dMul_j, dDiv_i, dMod_i, dEq_i, dNe_i, dEq_b, dLen_l, dLen_t, dTupOf_l, dTupOf_t, dMin2_i, dMax2_i, dInt1_b, dIx_l, dIx_t, dSl_l, dSl_t, r_gTu2, r_gTu3,
  Bool.false_eq_true, if_true, if_false, eq_self, List.length_map, List.length_replicate])
theorem law_true (ns : List Int) : G_law [scrP ns] = some (.bool true) := by
  unfold G_law b_law
  generalize hC : sIf _ (sSet 1 _) sNil = C
  have m0 : G_l_mixed [scrP ns, .int 0] = some (.int (mixed ns 0)) := mixed_run ns 0
  have m1 : G_l_mixed [scrP ns, .int 1] = some (.int (mixed ns 1)) := mixed_run ns 1
  have r0 := (mixed_range ns 0).1
  have r1 := (mixed_range ns 1).1
  generalize mixed ns 0 = M0 at *
  generalize mixed ns 1 = M1 at *
  generalize scrP ns = S at *
  obtain ⟨n, ls, hg, hn1, hn2, hls, hl⟩ := ground_run M0 7 12 (by omega) (by omega) r0
  have hg : G_l_ground [.int M0, .int 7, .int 12] = some (dGr n ls) := hg
  walk_at "run"
  rw [m0]
  walk_at "run"
  rw [hg]
  walk_at "run"
  rw [m1]
  walk_at "run"
  have : ∃ ls', C [some S, some (dGr n ls), some (.int M1), none, none, none] = some (.nx [some S, some (dGr n ls'), some (.int M1), none, none, none]) ∧ ls'.length ≤ 23 ∧ ∀ l ∈ ls', LnOk n l := by
    rw [← hC]
    walk_at "run"
    have hq : dNe (.tuple (ls.map dLn)) (.tuple []) = some (.bool (!(ls.map dLn).isEmpty)) := dNe_nilT fun d hd => by
      obtain ⟨l, _, rfl⟩ := List.mem_map.mp hd
      exact shp_ln' l
    by_cases c : M1 / 3 % 8 = 5
    · rw [decide_eq_true c]
      walk_at "run"
      rw [hq]
      cases hls0 : ls with
      | nil =>
        walk_at "run"
        exact ⟨[], rfl, by simp, fun l hl => by cases hl⟩
      | cons l0 r0 =>
        have hne : ls.map dLn ≠ [] := by rw [hls0]; simp
        have he : (ls.map dLn).isEmpty = false := by rw [hls0]; rfl
        rw [← hls0, he]
        walk_at "run"
        rw [mul23 hne (by rw [List.length_map]; omega)]
        walk_at "run"
        obtain ⟨t, ht⟩ : ∃ t : Nat, 20 + M1 / 24 % 4 = t := ⟨(20 + M1 / 24 % 4).toNat, by have := Int.emod_nonneg (M1 / 24) (show (4 : Int) ≠ 0 by omega); omega⟩
        have ht2 : t ≤ 23 := by have := Int.emod_lt_of_pos (M1 / 24) (show (0 : Int) < 4 by omega); omega
        rw [ht, cutD_to, rep23_map, ← List.map_take]
        exact ⟨_, rfl, by rw [List.length_take]; omega, fun l hl' => hl l (rep23_mem (List.mem_of_mem_take hl'))⟩
    · rw [decide_eq_false c]
      walk_at "run"
      exact ⟨ls, rfl, by omega, hl⟩
  obtain ⟨ls', hC', hl1, hl2⟩ := this
  rw [hC']
  clear hC hC' hl hls hg
  walk_at "run"
  rw [l_text23 hn2 hl1 hl2]
  walk_at "run"
  have t0 := gr_tok hn2 hl1 hl2
  generalize grT n ls' = z0 at t0
  generalize dGr n ls' = G
  have c0 : 0 ≤ M1 % 3 * (1 + M1 / 96 % 2) ∧ M1 % 3 * (1 + M1 / 96 % 2) ≤ 4 := by
    have h1 := Int.emod_nonneg M1 (show (3 : Int) ≠ 0 by omega)
    have h2 := Int.emod_lt_of_pos M1 (show (0 : Int) < 3 by omega)
    have h3 := Int.emod_nonneg (M1 / 96) (show (2 : Int) ≠ 0 by omega)
    have h4 := Int.emod_lt_of_pos (M1 / 96) (show (0 : Int) < 2 by omega)
    have h5 : M1 / 96 % 2 = 0 ∨ M1 / 96 % 2 = 1 := by omega
    rcases h5 with h5 | h5 <;> rw [h5] <;> omega
  generalize e : sFor _ _ _ _ = o
  obtain ⟨ρ', rfl, hq⟩ := for_all e (ds := rng 0 (M1 % 3 * (1 + M1 / 96 % 2)).toNat) (iR1_j (by walk_at "run") (by omega) (by omega)) (fun i ρ => ∃ z x4, ρ = [some S, some G, some (.int M1), some (.str z), x4, none] ∧ TOk (lenF i) z)
    ⟨_, _, rfl, t0⟩ fun i d ρ hd hq => by
      obtain ⟨z, x4, rfl, tz⟩ := hq
      obtain ⟨hi, rfl⟩ := rng_ix hd
      have h30 : lenF i ≤ 30000 := by
        have : i = 0 ∨ i = 1 ∨ i = 2 ∨ i = 3 := by omega
        rcases this with rfl | rfl | rfl | rfl <;> decide
      refine ⟨_, rfl, ?_⟩
      walk_at "run"
      have hd : G_l_drawn [.int M1, .int (0 + (i : Nat))] = some (.int (drawn M1 (0 + (i : Nat)))) := drawn_run M1 (0 + (i : Nat))
      rw [hd]
      walk_at "run"
      obtain ⟨t, ht, tt⟩ := changed_run tz h30 (drawn_range M1 (0 + (i : Nat))).1
      rw [ht]
      walk_at "run"
      exact ⟨_, rfl, t, _, rfl, tt⟩
  obtain ⟨z, x4, rfl, tz⟩ := hq
  rw [rng_lng] at tz
  have h100 : lenF (M1 % 3 * (1 + M1 / 96 % 2)).toNat ≤ 100000 := by
    have : (M1 % 3 * (1 + M1 / 96 % 2)).toNat ≤ 4 := by omega
    generalize (M1 % 3 * (1 + M1 / 96 % 2)).toNat = i at this
    have : i = 0 ∨ i = 1 ∨ i = 2 ∨ i = 3 ∨ i = 4 := by omega
    rcases this with rfl | rfl | rfl | rfl | rfl <;> decide
  walk_at "run"
  rcases read_agree tz h100 with ⟨a1, a2⟩ | ⟨n', ls'', a1, a2, a3⟩
  · rw [found_no a1]
    walk_at "run"
    rw [a2]
    rfl
  · rw [found_yes a1]
    walk_at "run"
    rw [a2]
    walk_at "run"
    have hs : dEq (dGr n' ls'') (dGr n' ls'') = some (.bool true) := dEq_self (k := 60) (shp_grA n' ls'') (by omega)
    rw [hs]
    walk_at "run"
    have hi : dIs false (dGr n' ls'') .none = some (.bool false) := rfl
    rw [hi]
    walk_at "run"
    rw [a3]
    rfl
end K03
open PySem PySem.W PyProof.Rows
set_option maxHeartbeats 0 in
theorem PySem.Challenge.cw_twighall_k03_whole_read_holds : PySem.Challenge.rw_twighall_k03_whole_read.Holds := by
  w_on; o_law; k_head; (case hw => w_witness2)
  k_fill
  refine L2.walk_of (l := PySem.Challenge.rw_twighall_k03_whole_read) (n := 63) (k := 7) (x := "_law_script") (CX := fun _ => L2.CX0) (sp := fun w => Tw.spG _ K03.G_law) rfl (by decide) rfl ⟨rfl, by decide, by decide⟩ (fun w h Y => PySem.W.kIn_of Y) ?F (fun _ H a ns hl _ hS => Tw.law_end (K03.law_true ns) hS) (fun _ _ _ _ _ h => h)
  case F =>
    intro w mg fa h KX G hmg
    refine' K03.all_mk KX G hmg ?a0 ?l0 ?c0 ?k0 ?a1 ?l1 ?c1 ?k1 ?a2 ?l2 ?c2 ?k2 ?a3 ?l3 ?c3 ?k3 ?a4 ?l4 ?c4 ?k4 ?a5 ?l5 ?c5 ?k5 ?a6 ?l6 ?c6 ?k6 ?a7 ?l7 ?c7 ?k7 ?a8 ?l8 ?c8 ?k8 ?a9 ?l9 ?c9 ?k9 ?a10 ?l10 ?c10 ?k10 ?a11 ?l11 ?c11 ?k11 ?a12 ?l12 ?c12 ?k12 ?a13 ?l13 ?c13 ?k13 ?a14 ?l14 ?c14 ?k14 ?a15 ?l15 ?c15 ?k15 ?a16 ?l16 ?c16 ?k16 ?a17 ?l17 ?c17 ?k17 ?a18 ?l18 ?c18 ?k18 ?n_TwigError ?n_NoGround ?n_NoText ?n_NoTree ?x_q ?x_k ?x_r1 ?x_r2 ?x_hg ?x_hk ?x_hd ?x_ha ?x_hn ?x_ht ?x_hm ?s_NoText ?s_TwigError ?d_TwigError ?t_TwigError ?s_ValueError ?s_NoGround ?d_NoGround ?t_NoGround ?s_NoTree ?d_NoTree ?t_NoTree ?d_NoText ?t_NoText ?b_NoText ?z0 ?z1 ?z2 ?z3 ?z4 ?z5 ?z6 ?z7 ?z8 ?z9 ?z10 ?z11 ?z12 ?z13 ?z14 ?z15 ?z16 ?z17 ?y_FIGURES ?y_LONGEST ?y_LINES ?y_SPOTS
    (case a0 => k_is); (case l0 => k_is); (case c0 => k_is); (case k0 => k_is); (case a1 => k_is); (case l1 => k_is); (case c1 => k_is); (case k1 => k_is)
    (case a2 => k_is); (case l2 => k_is); (case c2 => k_is); (case k2 => k_is); (case a3 => k_is); (case l3 => k_is); (case c3 => k_is); (case k3 => k_is)
    (case a4 => k_is); (case l4 => k_is); (case c4 => k_is); (case k4 => k_is); (case a5 => k_is); (case l5 => k_is); (case c5 => k_is); (case k5 => k_is)
    (case a6 => k_is); (case l6 => k_is); (case c6 => k_is); (case k6 => k_is); (case a7 => k_is); (case l7 => k_is); (case c7 => k_is); (case k7 => k_is)
    (case a8 => k_is); (case l8 => k_is); (case c8 => k_is); (case k8 => k_is); (case a9 => k_is); (case l9 => k_is); (case c9 => k_is); (case k9 => k_is)
    (case a10 => k_is); (case l10 => k_is); (case c10 => k_is); (case k10 => k_is); (case a11 => k_is); (case l11 => k_is); (case c11 => k_is); (case k11 => k_is)
    (case a12 => k_is); (case l12 => k_is); (case c12 => k_is); (case k12 => k_is); (case a13 => k_is); (case l13 => k_is); (case c13 => k_is); (case k13 => k_is)
    (case a14 => k_is); (case l14 => k_is); (case c14 => k_is); (case k14 => k_is); (case a15 => k_is); (case l15 => k_is); (case c15 => k_is); (case k15 => k_is)
    (case a16 => k_is); (case l16 => k_is); (case c16 => k_is); (case k16 => k_is); (case a17 => k_is); (case l17 => k_is); (case c17 => k_is); (case k17 => k_is)
    (case a18 => k_is); (case l18 => k_is); (case c18 => k_is); (case k18 => k_is); (case n_TwigError => k_is); (case n_NoGround => k_is); (case n_NoText => k_is); (case n_NoTree => k_is)
    (case x_q => k_exc); (case x_k => k_is); (case x_r1 => k_is); (case x_r2 => k_is); (case x_hg => k_is); (case x_hk => k_is); (case x_hd => k_is); (case x_ha => k_is)
    (case x_hn => k_is); (case x_ht => k_is); (case x_hm => k_is); (case s_NoText => k_is); (case s_TwigError => k_is); (case d_TwigError => k_is); (case t_TwigError => k_is); (case s_ValueError => k_is)
    (case s_NoGround => k_is); (case d_NoGround => k_is); (case t_NoGround => k_is); (case s_NoTree => k_is); (case d_NoTree => k_is); (case t_NoTree => k_is); (case d_NoText => k_is); (case t_NoText => k_is)
    (case b_NoText => k_is); (case z0 => k_is); (case z1 => k_is); (case z2 => k_is); (case z3 => k_is); (case z4 => k_is); (case z5 => k_is); (case z6 => k_is)
    (case z7 => k_is); (case z8 => k_is); (case z9 => k_is); (case z10 => k_is); (case z11 => k_is); (case z12 => k_is); (case z13 => k_is); (case z14 => k_is)
    (case z15 => k_is); (case z16 => k_is); (case z17 => k_is); (case y_FIGURES => k_is); (case y_LONGEST => k_is); (case y_LINES => k_is); (case y_SPOTS => k_is)

