import PyProof.Rows.All
import HandS.ForMost
import HandS.ForExc
import HandS.CallSlots
import HandS.ExcInit
import HandS.DictTup
import HandS.Lambda
import HandS.WordsExc
import HandS.TupAny
import HandS.TupMul
import HandS.Wide
import HandS.Deep
import KE.DataCmp
import KE.SortData
import KE.DataMinMax
import KE.DataIsa
import HandS.IsInst
import HandS.Zip
import HandS.Rev
import HandS.Codes
import HandS.Defaults
import KE.KExcInit
import HandS.ExcValue
import HandS.TryMany
import KE.KTryMore
import KE.KExcIs
import HandS.Style
import HandS.ExcIs
import PyProof.ExcBaseAll.OverflowError
import PyProof.ExcBaseAll.LookupError
import KE.KExcStr
import HandS.MakeKw
import PySem.Challenge.RW_drawnflat_k99_errors_by_hand
section
set_option Elab.async false
set_option linter.all false
set_option maxRecDepth 100000
set_option autoImplicit false
/-! FW1: data, owned slots, what a state says of them. -/
namespace FW
open PySem PySem.Spec PyProof.Rows L2
/-- the exception classes: a name's class and field; the written part -/
structure Cls where
  f : Str → Option (Addr × Str)
  K : PySem.W.Frag
/-- at a: an exception object of the class at C, its dict at dx -/
def exV (a C dx : Addr) : HO := .ext fun h => ∃ (oe : Obj) (vs : Array Value), h.get? a = some oe ∧ Zc (.ref C) (some dx) oe ∧ oe.data = .fields vs
/-- .. its argument tuple at t -/
def exW (a C dx t : Addr) : HO := .ext fun h => ∃ (oe : Obj) (vs : Array Value), h.get? a = some oe ∧ Zc (.ref C) (some dx) oe ∧ oe.data = .fields vs ∧ vs[0]? = some (.ref t)
/-! data: every tuple and list of it is tracked; an exception object is the dict of its class's name and its field's value -/
mutual
inductive RD (cls : Cls) (Z : Hp) : V → PyData → Prop
  | non : RD cls Z .non .none
  | bl (b : Bool) : RD cls Z (.bl b) (.bool b)
  | int (i : Int) : RD cls Z (.int i) (.int i)
  | str (x : Str) : RD cls Z (.str x) (.str x)
  | lst {a : Addr} {xs : List V} {ds : List PyData} : Z a = some (.lst xs) → RDs cls Z xs ds → RD cls Z (.ref a) (.list ds)
  | tup {a : Addr} {xs : List V} {ds : List PyData} : Z a = some (.tup xs) → RDs cls Z xs ds → RD cls Z (.ref a) (.tuple ds)
  | exc {a cl dx : Addr} {c f : Str} {y : V} {d : PyData} : cls.f c = some (cl, f) → Z a = some (exV a cl dx) → Z dx = some (.xd [(f, y)]) → RD cls Z y d → RD cls Z (.ref a) (.dict [(.str c, d)])
  | exm {a cl dx t : Addr} {c f msg : Str} {y : V} {d : PyData} : cls.f c = some (cl, f) → Z a = some (exW a cl dx t) → Z t = some (.tup [.str msg]) → Z dx = some (.xd [(f, y)]) → RD cls Z y d → RD cls Z (.ref a) (.dict [(.str c, d), (.str msg, .none)])
inductive RDs (cls : Cls) (Z : Hp) : List V → List PyData → Prop
  | nil : RDs cls Z [] []
  | cons {v : V} {vs : List V} {d : PyData} {ds : List PyData} : RD cls Z v d → RDs cls Z vs ds → RDs cls Z (v :: vs) (d :: ds)
end
mutual
theorem RD.dp {K : PySem.W.Frag} {cls : Cls} {Z : Hp} : ∀ (d : PyData) (v : V), d.canLay0 = true → RD cls Z v d → Dp K Z v d
  | .none, _, _, r => by cases r; exact .non
  | .bool _, _, _, r => by cases r; exact .bl _
  | .int _, _, _, r => by cases r; exact .int _
  | .str _, _, _, r => by cases r; exact .str _
  | .list ds, _, h, r => by
    cases r with
    | lst h1 h2 => exact .lst (.inl (.inl h1)) (RDs.dps ds _ h h2)
  | .tuple ds, _, h, r => by
    cases r with
    | tup h1 h2 => exact .tup (.inl (.inl h1)) (RDs.dps ds _ h h2)
  | .dict _, _, h, _ => by cases h
theorem RDs.dps {K : PySem.W.Frag} {cls : Cls} {Z : Hp} : ∀ (ds : List PyData) (vs : List V), PyData.canLayAll0 ds = true → RDs cls Z vs ds → DpAll K Z vs ds
  | [], _, _, r => by cases r; exact .nil
  | d :: ds, _, h, r => by
    have h : (PyData.canLay0 d && PyData.canLayAll0 ds) = true := h
    rw [Bool.and_eq_true] at h
    cases r with
    | cons h1 h2 => exact .cons (RD.dp d _ h.1 h1) (RDs.dps ds _ h.2 h2)
end
section
variable {K : PySem.W.Frag} {cls : Cls}
theorem RDs.length {Z : Hp} : ∀ {vs : List V} {ds : List PyData}, RDs cls Z vs ds → vs.length = ds.length
  | _, _, .nil => rfl
  | _, _, .cons _ t => by simp [RDs.length t]
theorem RDs.get {Z : Hp} : ∀ {vs : List V} {ds : List PyData} {i : Nat} {d : PyData}, RDs cls Z vs ds → ds[i]? = some d → ∃ v, vs[i]? = some v ∧ RD cls Z v d
  | _, _, _, _, .nil, e => by simp at e
  | _, _, 0, _, .cons h _, e => by simp at e; subst e; exact ⟨_, rfl, h⟩
  | _, _, i + 1, _, .cons _ t, e => by
    obtain ⟨v, h1, h2⟩ := RDs.get (i := i) t (by simpa using e)
    exact ⟨v, by simpa using h1, h2⟩
theorem RDs.append {Z : Hp} : ∀ {vs ws : List V} {ds es : List PyData}, RDs cls Z vs ds → RDs cls Z ws es → RDs cls Z (vs ++ ws) (ds ++ es)
  | _, _, _, _, .nil, s => s
  | _, _, _, _, .cons h t, s => .cons h (RDs.append t s)
theorem RDs.snoc {Z : Hp} {vs : List V} {ds : List PyData} {v : V} {d : PyData} (h : RDs cls Z vs ds) (h' : RD cls Z v d) : RDs cls Z (vs ++ [v]) (ds ++ [d]) := h.append (.cons h' .nil)
theorem RDs.take {Z : Hp} : ∀ {vs : List V} {ds : List PyData} (n : Nat), RDs cls Z vs ds → RDs cls Z (vs.take n) (ds.take n)
  | _, _, 0, _ => .nil
  | _, _, _ + 1, .nil => .nil
  | _, _, n + 1, .cons h t => .cons h (RDs.take n t)
theorem RDs.drop {Z : Hp} : ∀ {vs : List V} {ds : List PyData} (n : Nat), RDs cls Z vs ds → RDs cls Z (vs.drop n) (ds.drop n)
  | _, _, 0, h => h
  | _, _, _ + 1, .nil => .nil
  | _, _, n + 1, .cons _ t => RDs.drop n t
theorem RDs.set {Z : Hp} {v : V} {d : PyData} (h' : RD cls Z v d) : ∀ {vs : List V} {ds : List PyData} (n : Nat), RDs cls Z vs ds → RDs cls Z (vs.set n v) (ds.set n d)
  | _, _, _, .nil => .nil
  | _, _, 0, .cons _ t => .cons h' t
  | _, _, n + 1, .cons h t => .cons h (RDs.set h' n t)
theorem RDs.eraseIdx {Z : Hp} : ∀ {vs : List V} {ds : List PyData} (n : Nat), RDs cls Z vs ds → RDs cls Z (vs.eraseIdx n) (ds.eraseIdx n)
  | _, _, _, .nil => .nil
  | _, _, 0, .cons _ t => t
  | _, _, n + 1, .cons h t => .cons h (RDs.eraseIdx n t)
theorem RDs.rep {Z : Hp} {vs : List V} {ds : List PyData} (h : RDs cls Z vs ds) : ∀ k : Nat, RDs cls Z (List.replicate k vs).flatten (List.replicate k ds).flatten
  | 0 => .nil
  | k + 1 => by
    rw [List.replicate_succ, List.replicate_succ, List.flatten_cons, List.flatten_cons]
    exact h.append (RDs.rep h k)
theorem RDs.reverse {Z : Hp} {vs : List V} {ds : List PyData} (h : RDs cls Z vs ds) : RDs cls Z vs.reverse ds.reverse := by
  induction ds generalizing vs with
  | nil => cases h; exact .nil
  | cons d ds ih =>
    cases h with
    | cons h1 h2 =>
      rw [List.reverse_cons, List.reverse_cons]
      exact (ih h2).snoc h1
theorem RDs.nils {Z : Hp} {ds : List PyData} (h : RDs cls Z [] ds) : ds = [] := by cases h; rfl
end
end FW
namespace FW
open PySem PySem.Spec PyProof.Rows L2
abbrev St := L2.St

abbrev D := PyData

/-- what a slot or a temporary holds: data that never changes any more, or something that is owned -/
inductive M where
  | v (d : D)
  | ml (xs : List D)
  | mll (xss : List (List D))
  | md (kvs : List (Key × D))
  | mt (kvs : List (List Key × D))
  | sc (ns : List Int)

abbrev Env := List (Option M)

/-- A is a part of B -/
def Sub (A B : Hp) : Prop := ∀ a u, A a = some u → B a = some u
theorem Sub.rfl' {A : Hp} : Sub A A := fun _ _ h => h
theorem Sub.trans {A B C : Hp} (h : Sub A B) (h' : Sub B C) : Sub A C := fun a u e => h' a u (h a u e)
theorem Sub.new {A : Hp} {p : Addr} {u : HO} (h : A p = none) : Sub A (upd A p u) := fun a w e => by
  rw [upd_ne (ne_of_none e h)]
  exact e
theorem Sub.upd {A B : Hp} {p : Addr} {u : HO} (h : Sub A B) : Sub (L2.upd A p u) (L2.upd B p u) := fun a w e => by
  by_cases ha : a = p
  · subst ha
    rw [upd_same] at e ⊢
    exact e
  · rw [upd_ne ha] at e ⊢
    exact h a w e
theorem Sub.updR {A B : Hp} {p : Addr} {u : HO} (h : Sub A B) (n : A p = none) : Sub A (L2.upd B p u) := fun a w e => by
  rw [upd_ne (ne_of_none e n)]
  exact h a w e

theorem Sub.sq {K : PySem.W.Frag} {A B : Hp} (h : Sub A B) {a : Addr} {xs : List V} (s : SqL K A a xs) : SqL K B a xs := by
  rcases s with (s | ⟨o, s⟩) | s
  · exact .inl (.inl (h _ _ s))
  · exact .inl (.inr ⟨o, h _ _ s⟩)
  · exact .inr s
theorem Sub.none {A B : Hp} (h : Sub A B) {p : Addr} (n : B p = none) : A p = none := by
  cases e : A p with
  | none => rfl
  | some u => rw [h p u e] at n; cases n

section
variable {K : PySem.W.Frag} {cls : Cls}
theorem Sub.rd {A B : Hp} (h : Sub A B) {a : Addr} {u : HO} (r : Rd A a u) : Rd B a u := by
  rcases r with r | ⟨o, r⟩
  · exact .inl (h _ _ r)
  · exact .inr ⟨o, h _ _ r⟩
theorem Sub.sql {A B : Hp} (h : Sub A B) {a : Addr} {xs : List V} (r : SqL K A a xs) : SqL K B a xs := by
  rcases r with r | r
  · exact .inl (h.rd r)
  · exact .inr r
theorem Sub.sqt {A B : Hp} (h : Sub A B) {a : Addr} {xs : List V} (r : SqT K A a xs) : SqT K B a xs := by
  rcases r with r | r
  · exact .inl (h.rd r)
  · exact .inr r
mutual
theorem Sub.dp {A B : Hp} (h : Sub A B) : ∀ (d : D) (v : V), RD cls A v d → RD cls B v d
  | .none, _, r => by cases r; exact .non
  | .bool _, _, r => by cases r; exact .bl _
  | .int _, _, r => by cases r; exact .int _
  | .str _, _, r => by cases r; exact .str _
  | .list ds, _, r => by
    cases r with
    | lst h1 h2 => exact .lst (h _ _ h1) (Sub.dps h ds _ h2)
  | .tuple ds, _, r => by
    cases r with
    | tup h1 h2 => exact .tup (h _ _ h1) (Sub.dps h ds _ h2)
  | .dict kvs, _, r => by
    cases r with
    | exc h1 h2 h3 h4 => exact .exc h1 (h _ _ h2) (h _ _ h3) (Sub.dp h _ _ h4)
    | exm h1 h2 h3 h4 h5 => exact .exm h1 (h _ _ h2) (h _ _ h3) (h _ _ h4) (Sub.dp h _ _ h5)
theorem Sub.dps {A B : Hp} (h : Sub A B) : ∀ (ds : List D) (vs : List V), RDs cls A vs ds → RDs cls B vs ds
  | [], _, r => by cases r; exact .nil
  | d :: ds, _, r => by
    cases r with
    | cons h1 h2 => exact .cons (Sub.dp h d _ h1) (Sub.dps h ds _ h2)
end
end

/-- what may be owned -/
def Ownable : HO → Prop
  | .lst _ => True
  | .dK _ => True
  | .dT _ => True
  | _ => False
/-- owned inner lists -/
def RLs (cls : Cls) (Z H : Hp) (P : Addr → Prop) : List Addr → List (List D) → Prop
  | [], xss => xss = []
  | a :: as, xss => ∃ xs r, xss = xs :: r ∧ (P a ∧ ∃ ys, H a = some (.lst ys) ∧ RDs cls Z ys xs) ∧ RLs cls Z H P as r


/-- the entries of a dict -/
def RKs {κ : Type} (cls : Cls) (Z : Hp) : List (κ × V) → List (κ × D) → Prop := Paired fun p q => p.1 = q.1 ∧ RD cls Z p.2 q.2

/-- a value stands for what a slot holds; P: the addresses it may own -/
def RM (cls : Cls) (Z H : Hp) (P : Addr → Prop) (v : V) : M → Prop
  | .v d => RD cls Z v d
  | .ml xs => ∃ a ys, v = .ref a ∧ P a ∧ H a = some (.lst ys) ∧ RDs cls Z ys xs
  | .mll xss => ∃ a as, v = .ref a ∧ P a ∧ H a = some (.lst (as.map V.ref)) ∧ as.Nodup ∧ a ∉ as ∧ RLs cls Z H P as xss
  | .md kvs => ∃ a ys, v = .ref a ∧ P a ∧ H a = some (.dK ys) ∧ RKs cls Z ys kvs
  | .mt kvs => ∃ a ys, v = .ref a ∧ P a ∧ H a = some (.dT ys) ∧ RKs cls Z ys kvs
  | .sc ns => ∃ a, v = .ref a ∧ SqL cls.K Z a (ns.map V.int)

section
variable {K : PySem.W.Frag} {cls : Cls} {Z Z' H H' : Hp} {P P' : Addr → Prop} {v : V} {m : M}
theorem RLs.mono (hz : Sub Z Z') (hh : ∀ a u, Ownable u → P a → H a = some u → P' a ∧ H' a = some u) : ∀ {as : List Addr} {xss : List (List D)}, RLs cls Z H P as xss → RLs cls Z' H' P' as xss
  | [], _, h => h
  | a :: as, _, h => by
    obtain ⟨xs, r, e, ⟨p, ys, h1, h2⟩, t⟩ := h
    obtain ⟨p', h1'⟩ := hh a (.lst ys) trivial p h1
    exact ⟨xs, r, e, ⟨p', ys, h1', hz.dps _ _ h2⟩, RLs.mono hz hh t⟩
theorem RLs.own : ∀ {as : List Addr} {xss : List (List D)}, RLs cls Z H P as xss → ∀ a ∈ as, P a ∧ ∃ u, H a = some u
  | [], _, _, _, hm => by cases hm
  | b :: as, _, h, a, hm => by
    obtain ⟨xs, r, e, ⟨p, ys, h1, h2⟩, t⟩ := h
    rcases List.mem_cons.mp hm with e | hm
    · subst e
      exact ⟨p, _, h1⟩
    · exact RLs.own t a hm
theorem RKs.mono {κ : Type} (hz : Sub Z Z') : ∀ {ys : List (κ × V)} {kvs : List (κ × D)}, RKs cls Z ys kvs → RKs cls Z' ys kvs
  | _, _, .nil => .nil
  | _, _, .cons h t => .cons ⟨h.1, hz.dp _ _ h.2⟩ (RKs.mono hz t)
theorem RM.mono (hz : Sub Z Z') (hh : ∀ a u, Ownable u → P a → H a = some u → P' a ∧ H' a = some u) (h : RM cls Z H P v m) : RM cls Z' H' P' v m := by
  cases m with
  | v d => exact hz.dp _ _ h
  | ml xs =>
    obtain ⟨a, ys, e, p, h1, h2⟩ := h
    obtain ⟨p', h1'⟩ := hh a (.lst ys) trivial p h1
    exact ⟨a, ys, e, p', h1', hz.dps _ _ h2⟩
  | mll xss =>
    obtain ⟨a, as, e, p, h1, nd, ne, h2⟩ := h
    obtain ⟨p', h1'⟩ := hh a (.lst (as.map V.ref)) trivial p h1
    exact ⟨a, as, e, p', h1', nd, ne, h2.mono hz hh⟩
  | md kvs =>
    obtain ⟨a, ys, e, p, h1, h2⟩ := h
    obtain ⟨p', h1'⟩ := hh a (.dK ys) trivial p h1
    exact ⟨a, ys, e, p', h1', h2.mono hz⟩
  | mt kvs =>
    obtain ⟨a, ys, e, p, h1, h2⟩ := h
    obtain ⟨p', h1'⟩ := hh a (.dT ys) trivial p h1
    exact ⟨a, ys, e, p', h1', h2.mono hz⟩
  | sc ns =>
    obtain ⟨a, e, h1⟩ := h
    exact ⟨a, e, hz.sq h1⟩
end

/-- what holds for a whole body: the ghost heap and the guarded heap at its entry, the number of slots, the slots that are never stored to, the exception classes -/
structure Base where
  Z : Hp
  G : Hp
  n : Nat
  L : List Nat
  σ : St
  cls : Cls
  tb : List (Addr × Str)
  Zf : Hp

/-- the same with another ghost heap at the entry -/
abbrev Base.at (C : Base) (Z : Hp) : Base := ⟨Z, C.G, C.n, C.L, C.σ, C.cls, C.tb, C.Zf⟩

structure Own (C : Base) (Z H : Hp) (o : Addr → Option Nat) (σ : St) (ρ : Env) (T : List (V × M)) : Prop where
  zh : Sub Z H
  gh : Sub C.G H
  z0 : Sub C.Z Z
  zg : ∀ a u, Z a = some u → C.Z a = some u ∨ C.G a = none
  oz : ∀ a n, o a = some n → Z a = none
  og : ∀ a n, o a = some n → C.G a = none
  ln : σ.length = C.n
  lk : ∀ i ∈ C.L, σ[i]? = C.σ[i]?
  sl : ∀ i m, ρ[i]? = some (some m) → ∃ v, σ[i]? = some (some v) ∧ RM C.cls Z H (fun a => o a = some i) v m
  tp : ∀ j v m, T[j]? = some (v, m) → RM C.cls Z H (fun a => o a = some (C.n + j)) v m
  gt : ∀ a ps, C.G a ≠ some (.tbl ps)
  tb : LamX.Tabs C.tb H
  oh : ∀ a n, o a = some n → ∃ u, H a = some u ∧ Ownable u
  zf : Sub C.Zf Z
  zt : ∀ a ps, Z a ≠ some (.tbl ps)

/-- a result that nobody owns yet -/
def Give (cls : Cls) (Z H : Hp) (m : M) (Q : V → Hp → Prop) : Prop :=
  ∀ v Z' H', Sub Z Z' → Sub H H' → Sub Z' H' → (∀ a u, Z' a = some u → Z a = some u ∨ (H a = none ∧ ∀ ps, u ≠ .tbl ps)) → RM cls Z' H' (fun a => H a = none ∧ Z' a = none) v m → Q v H'

section
variable {K : PySem.W.Frag} {C : Base} {Z Z' H H' : Hp} {o : Addr → Option Nat} {σ : St} {ρ : Env} {T : List (V × M)} {v : V} {m : M} {i : Nat} {d : D}
theorem Own.slot_lt (w : Own C Z H o σ ρ T) (e : ρ[i]? = some (some m)) : i < C.n := by
  obtain ⟨v, h, _⟩ := w.sl i m e
  rw [← w.ln]
  exact (List.getElem?_eq_some_iff.mp h).1
/-- a fresh result becomes a temporary -/
theorem Own.push (w : Own C Z H o σ ρ T) (hz : Sub Z Z') (hh : Sub H H') (zh : Sub Z' H') (zn : ∀ a u, Z' a = some u → Z a = some u ∨ (H a = none ∧ ∀ ps, u ≠ .tbl ps))
    (r : RM C.cls Z' H' (fun a => H a = none ∧ Z' a = none) v m) : ∃ o', Own C Z' H' o' σ ρ (T ++ [(v, m)]) := by
  classical
  have cut : ∀ a n, (if H a = none then (if Z' a = none ∧ ∃ u, H' a = some u ∧ Ownable u then some (C.n + T.length) else none) else o a) = some n → Z' a = none ∧ C.G a = none ∧ ∃ u, H' a = some u ∧ Ownable u := fun a n e => by
    by_cases h1 : H a = none
    · rw [if_pos h1] at e
      by_cases h2 : Z' a = none ∧ ∃ u, H' a = some u ∧ Ownable u
      · exact ⟨h2.1, w.gh.none h1, h2.2⟩
      · rw [if_neg h2] at e; cases e
    · rw [if_neg h1] at e
      obtain ⟨u, h3, h4⟩ := w.oh a n e
      refine ⟨?_, w.og a n e, u, hh _ _ h3, h4⟩
      cases e2 : Z' a with
      | none => rfl
      | some u =>
        rcases zn a u e2 with e3 | e3
        · rw [w.oz a n e] at e3; cases e3
        · exact absurd e3.1 h1
  have old : ∀ a u n, o a = some n → H a = some u → (if H a = none then (if Z' a = none ∧ ∃ u, H' a = some u ∧ Ownable u then some (C.n + T.length) else none) else o a) = some n ∧ H' a = some u := fun a u n e e2 => by
    rw [if_neg (by rw [e2]; intro z; cases z)]
    exact ⟨e, hh _ _ e2⟩
  refine ⟨fun a => if H a = none then (if Z' a = none ∧ ∃ u, H' a = some u ∧ Ownable u then some (C.n + T.length) else none) else o a, zh, w.gh.trans hh, w.z0.trans hz, fun a u e => ?_, fun a n e => (cut a n e).1, fun a n e => (cut a n e).2.1, w.ln, w.lk, fun i m e => ?_, fun j v' m' e => ?_, w.gt, w.tb.ext hh, fun a n e => (cut a n e).2.2, w.zf.trans hz, fun a ps e => (zn a _ e).elim (w.zt a ps) fun z => z.2 ps rfl⟩
  · rcases zn a u e with e2 | e2
    · exact w.zg a u e2
    · exact .inr (w.gh.none e2.1)
  · obtain ⟨v, h1, h2⟩ := w.sl i m e
    exact ⟨v, h1, h2.mono hz fun a u _ p q => old a u i p q⟩
  · by_cases hj : j < T.length
    · rw [List.getElem?_append_left hj] at e
      exact (w.tp j v' m' e).mono hz fun a u _ p q => old a u _ p q
    · have hj2 : j = T.length := by
        have := (List.getElem?_eq_some_iff.mp e).1
        simp at this
        omega
      subst hj2
      rw [List.getElem?_append_right (Nat.le_refl _)] at e
      simp at e
      obtain ⟨rfl, rfl⟩ := e
      exact r.mono Sub.rfl' fun a u hu p q => ⟨by rw [if_pos p.1, if_pos ⟨p.2, u, q, hu⟩], q⟩
theorem Own.give (w : Own C Z H o σ ρ T) {Q : V → Hp → Prop} (q : ∀ v Z' H' o', Own C Z' H' o' σ ρ (T ++ [(v, m)]) → Q v H') : Give C.cls Z H m Q := fun v Z' H' hz hh zh zn r => by
  obtain ⟨o', w'⟩ := w.push hz hh zh zn r
  exact q v Z' H' o' w'
/-- a later ghost heap is the ground for a while -/
theorem Own.up (w : Own C Z H o σ ρ T) : Own (C.at Z) Z H o σ ρ T :=
  ⟨w.zh, w.gh, Sub.rfl', fun _ _ e => .inl e, w.oz, w.og, w.ln, w.lk, w.sl, w.tp, w.gt, w.tb, w.oh, w.zf, w.zt⟩
theorem Own.down {Zb Zc : Hp} (w' : Own (C.at Zc) Z' H' o σ ρ T) (h1 : Sub Zb Zc) (h2 : ∀ a u, Zc a = some u → Zb a = some u ∨ C.G a = none) : Own (C.at Zb) Z' H' o σ ρ T :=
  ⟨w'.zh, w'.gh, h1.trans w'.z0, fun a u e => (w'.zg a u e).elim (h2 a u) .inr, w'.oz, w'.og, w'.ln, w'.lk, w'.sl, w'.tp, w'.gt, w'.tb, w'.oh, w'.zf, w'.zt⟩
/-- temporaries are dropped -/
theorem Own.drop {T' : List (V × M)} (w : Own C Z H o σ ρ (T ++ T')) : Own C Z H o σ ρ T :=
  ⟨w.zh, w.gh, w.z0, w.zg, w.oz, w.og, w.ln, w.lk, w.sl, fun j v m e => w.tp j v m (by rw [List.getElem?_append_left (List.getElem?_eq_some_iff.mp e).1]; exact e), w.gt, w.tb, w.oh, w.zf, w.zt⟩
theorem Own.last (w : Own C Z H o σ ρ (T ++ [(v, m)])) : RM C.cls Z H (fun a => o a = some (C.n + T.length)) v m :=
  w.tp T.length v m (by rw [List.getElem?_append_right (Nat.le_refl _)]; simp)
/-- a slot is forgotten -/
theorem Own.unset (w : Own C Z H o σ ρ T) (i : Nat) : Own C Z H o σ (ρ.set i none) T :=
  ⟨w.zh, w.gh, w.z0, w.zg, w.oz, w.og, w.ln, w.lk, fun j m e => w.sl j m (by
    by_cases hj : i = j
    · subst hj
      by_cases hl : i < ρ.length
      · rw [List.getElem?_set_self hl] at e; cases e
      · rw [List.getElem?_eq_none (by simpa using hl)] at e; cases e
    · rw [List.getElem?_set_ne hj] at e; exact e), w.tp, w.gt, w.tb, w.oh, w.zf, w.zt⟩
/-- the last temporary goes into a slot -/
theorem Own.store (w : Own C Z H o σ ρ (T ++ [(v, m)])) (hi : i < C.n) (hl : i ∉ C.L) : ∃ o', Own C Z H o' (σ.set i (some v)) (ρ.set i (some m)) T := by
  classical
  have r := w.last
  have tl : ∀ j v' m', T[j]? = some (v', m') → j < T.length := fun j v' m' e => (List.getElem?_eq_some_iff.mp e).1
  have ev : ∀ a n, (if o a = some (C.n + T.length) then some i else if o a = some i then none else o a) = some n → ∃ k, o a = some k := fun a n e => by
    split at e
    · exact ⟨_, by assumption⟩
    · split at e
      · exact ⟨_, by assumption⟩
      · exact ⟨_, e⟩
  refine ⟨fun a => if o a = some (C.n + T.length) then some i else if o a = some i then none else o a, w.zh, w.gh, w.z0, w.zg, fun a n e => ?_, fun a n e => ?_, by simpa using w.ln, fun j hj => ?_, fun j m' e => ?_, fun j v' m' e => ?_, w.gt, w.tb, fun a n e => (ev a n e).elim fun k e' => w.oh a k e', w.zf, w.zt⟩
  · obtain ⟨k, e'⟩ := ev a n e
    exact w.oz a k e'
  · obtain ⟨k, e'⟩ := ev a n e
    exact w.og a k e'
  · rw [List.getElem?_set_ne (fun z : i = j => hl (by rw [z]; exact hj))]
    exact w.lk j hj
  · by_cases hj : i = j
    · subst hj
      have hr : i < ρ.length := by
        have := (List.getElem?_eq_some_iff.mp e).1
        simpa using this
      rw [List.getElem?_set_self hr] at e
      cases e
      exact ⟨v, List.getElem?_set_self (by rw [w.ln]; exact hi), r.mono Sub.rfl' fun a u _ p q => ⟨by rw [if_pos p], q⟩⟩
    · rw [List.getElem?_set_ne hj] at e
      obtain ⟨v', h1, h2⟩ := w.sl j m' e
      refine ⟨v', by rw [List.getElem?_set_ne hj]; exact h1, h2.mono Sub.rfl' fun a u _ p q => ⟨?_, q⟩⟩
      have hlt := w.slot_lt e
      have p : o a = some j := p
      rw [if_neg (by rw [p]; intro z; have := Option.some.inj z; omega), if_neg (by rw [p]; intro z; exact hj (Option.some.inj z).symm), p]
  · have e2 := w.tp j v' m' (by rw [List.getElem?_append_left (tl j v' m' e)]; exact e)
    refine e2.mono Sub.rfl' fun a u _ p q => ⟨?_, q⟩
    have hlt := tl j v' m' e
    have p : o a = some (C.n + j) := p
    rw [if_neg (by rw [p]; intro z; have := Option.some.inj z; omega), if_neg (by rw [p]; intro z; have := Option.some.inj z; omega), p]
/-- a slot's content becomes a temporary, the slot is forgotten -/
theorem Own.move (w : Own C Z H o σ ρ T) (e : ρ[i]? = some (some m)) (hv : σ[i]? = some (some v)) : ∃ o', Own C Z H o' σ (ρ.set i none) (T ++ [(v, m)]) := by
  classical
  obtain ⟨v0, h1, r⟩ := w.sl i m e
  rw [hv] at h1
  cases h1
  have hi := w.slot_lt e
  have ev : ∀ a n, (if o a = some i then some (C.n + T.length) else if o a = some (C.n + T.length) then none else o a) = some n → ∃ k, o a = some k := fun a n e => by
    split at e
    · exact ⟨_, by assumption⟩
    · split at e
      · exact ⟨_, by assumption⟩
      · exact ⟨_, e⟩
  have u := w.unset i
  refine ⟨fun a => if o a = some i then some (C.n + T.length) else if o a = some (C.n + T.length) then none else o a, w.zh, w.gh, w.z0, w.zg, fun a n e => ?_, fun a n e => ?_, w.ln, w.lk, fun j m' e => ?_, fun j v' m' e => ?_, w.gt, w.tb, fun a n e => (ev a n e).elim fun k e' => w.oh a k e', w.zf, w.zt⟩
  · obtain ⟨k, e'⟩ := ev a n e
    exact w.oz a k e'
  · obtain ⟨k, e'⟩ := ev a n e
    exact w.og a k e'
  · obtain ⟨v', h1, h2⟩ := u.sl j m' e
    refine ⟨v', h1, h2.mono Sub.rfl' fun a u _ p q => ⟨?_, q⟩⟩
    have hj : i ≠ j := fun z => by
      subst z
      have hr : i < ρ.length := by
        have := (List.getElem?_eq_some_iff.mp e).1
        simpa using this
      rw [List.getElem?_set_self hr] at e
      cases e
    have p : o a = some j := p
    rw [List.getElem?_set_ne hj] at e
    have hlt := w.slot_lt e
    rw [if_neg (by rw [p]; intro z; exact hj (Option.some.inj z).symm), if_neg (by rw [p]; intro z; have := Option.some.inj z; omega), p]
  · by_cases hj : j < T.length
    · rw [List.getElem?_append_left hj] at e
      refine (w.tp j v' m' e).mono Sub.rfl' fun a u _ p q => ⟨?_, q⟩
      have p : o a = some (C.n + j) := p
      rw [if_neg (by rw [p]; intro z; have := Option.some.inj z; omega), if_neg (by rw [p]; intro z; have := Option.some.inj z; omega), p]
    · have hj2 : j = T.length := by
        have := (List.getElem?_eq_some_iff.mp e).1
        simp at this
        omega
      subst hj2
      rw [List.getElem?_append_right (Nat.le_refl _)] at e
      simp at e
      obtain ⟨rfl, rfl⟩ := e
      exact r.mono Sub.rfl' fun a u _ p q => ⟨by rw [if_pos p], q⟩
end

/-- what may be handed on for good -/
def M.asD : M → Option D
  | .v d => some d
  | .ml xs => some (.list xs)
  | .mll xss => some (.list (xss.map .list))
  | _ => none

section
variable {K : PySem.W.Frag} {C : Base} {Z Z' H H' : Hp} {o : Addr → Option Nat} {σ : St} {ρ : Env} {T : List (V × M)} {v : V} {m : M} {i k : Nat} {d : D}
/-- all that the owner k owns is frozen -/
def frz (o : Addr → Option Nat) (k : Nat) (Z H : Hp) : Hp := fun a => if o a = some k then H a else Z a
theorem frz_at {o : Addr → Option Nat} {k : Nat} {Z H : Hp} {a : Addr} (e : o a = some k) : frz o k Z H a = H a := if_pos e
theorem frz_ne {o : Addr → Option Nat} {k : Nat} {Z H : Hp} {a : Addr} (e : o a ≠ some k) : frz o k Z H a = Z a := if_neg e
theorem Own.frz_sub (w : Own C Z H o σ ρ T) (k : Nat) : Sub Z (frz o k Z H) := fun a u e => by
  by_cases h : o a = some k
  · rw [w.oz a k h] at e; cases e
  · rw [frz_ne h]; exact e
/-- the rest of the state behind it -/
theorem Own.frz_own (w : Own C Z H o σ ρ T) (k : Nat) (ρ' : Env) (T' : List (V × M)) (hs : ∀ i m, ρ'[i]? = some (some m) → (ρ[i]? = some (some m) ∧ i ≠ k) ∨ ∃ v, σ[i]? = some (some v) ∧ ∃ d, m = .v d ∧ RD C.cls (frz o k Z H) v d)
    (ht : ∀ j v m, T'[j]? = some (v, m) → (T[j]? = some (v, m) ∧ C.n + j ≠ k) ∨ ∃ d, m = .v d ∧ RD C.cls (frz o k Z H) v d) :
    Own C (frz o k Z H) H (fun a => if o a = some k then none else o a) σ ρ' T' := by
  have ev : ∀ a n, (if o a = some k then none else o a) = some n → o a = some n ∧ n ≠ k := fun a n e => by
    by_cases h : o a = some k
    · rw [if_pos h] at e; cases e
    · rw [if_neg h] at e
      exact ⟨e, fun z => h (by rw [e, z])⟩
  refine ⟨fun a u e => ?_, w.gh, w.z0.trans (w.frz_sub k), fun a u e => ?_, fun a n e => ?_, fun a n e => ?_, w.ln, w.lk, fun i m e => ?_, fun j v m e => ?_, w.gt, w.tb, fun a n e => w.oh a n (ev a n e).1, w.zf.trans (w.frz_sub k), fun a ps e => ?_⟩
  · by_cases h : o a = some k
    · rw [frz_at h] at e; exact e
    · rw [frz_ne h] at e; exact w.zh a u e
  · by_cases h : o a = some k
    · exact .inr (w.og a k h)
    · rw [frz_ne h] at e; exact w.zg a u e
  · obtain ⟨e1, e2⟩ := ev a n e
    rw [frz_ne (by rw [e1]; intro z; exact e2 (Option.some.inj z))]
    exact w.oz a n e1
  · exact w.og a n (ev a n e).1
  · rcases hs i m e with ⟨e1, ne⟩ | ⟨v, h1, d, rfl, h2⟩
    · obtain ⟨v, h1, h2⟩ := w.sl i m e1
      refine ⟨v, h1, h2.mono (w.frz_sub k) fun a u _ p q => ⟨?_, q⟩⟩
      have p : o a = some i := p
      rw [if_neg (by rw [p]; intro z; exact ne (Option.some.inj z)), p]
    · exact ⟨v, h1, h2⟩
  · rcases ht j v m e with ⟨e1, ne⟩ | ⟨d, rfl, h2⟩
    · refine (w.tp j v m e1).mono (w.frz_sub k) fun a u _ p q => ⟨?_, q⟩
      have p : o a = some (C.n + j) := p
      rw [if_neg (by rw [p]; intro z; exact ne (Option.some.inj z)), p]
    · exact h2
  · by_cases h : o a = some k
    · rw [frz_at h] at e
      obtain ⟨u, h1, h2⟩ := w.oh a k h
      rw [e] at h1
      cases h1
      exact h2
    · rw [frz_ne h] at e
      exact w.zt a ps e
theorem RLs.dps {cls : Cls} {P : Addr → Prop} (hz : Sub Z Z') (hp : ∀ a u, P a → H a = some u → Z' a = some u) : ∀ {as : List Addr} {xss : List (List D)}, RLs cls Z H P as xss → RDs cls Z' (as.map V.ref) (xss.map .list)
  | [], _, h => by
    cases (show _ = [] from h)
    exact .nil
  | a :: as, _, h => by
    obtain ⟨xs, r, rfl, ⟨p, ys, h1, h2⟩, t⟩ := h
    exact .cons (.lst (hp a _ p h1) (hz.dps _ _ h2)) (RLs.dps hz hp t)
theorem RM.frozen {cls : Cls} {P : Addr → Prop} (r : RM cls Z H P v m) (e : m.asD = some d) (hz : Sub Z Z') (hp : ∀ a u, P a → H a = some u → Z' a = some u) : RD cls Z' v d := by
  cases m with
  | v d' => cases e; exact hz.dp _ _ r
  | ml xs =>
    cases e
    obtain ⟨a, ys, rfl, p, h1, h2⟩ := r
    exact .lst (hp a _ p h1) (hz.dps _ _ h2)
  | mll xss =>
    cases e
    obtain ⟨a, as, rfl, p, h1, _, _, h2⟩ := r
    exact .lst (hp a _ p h1) (h2.dps hz hp)
  | md kvs => cases e
  | mt kvs => cases e
  | sc ns => cases e
/-- the last temporary is frozen -/
theorem Own.frzT (w : Own C Z H o σ ρ (T ++ [(v, m)])) (e : m.asD = some d) : ∃ Z' o', Sub Z Z' ∧ Own C Z' H o' σ ρ (T ++ [(v, .v d)]) := by
  have r : RD C.cls (frz o (C.n + T.length) Z H) v d := w.last.frozen e (w.frz_sub _) fun a u p q => by
    rw [frz_at p]; exact q
  refine ⟨_, _, w.frz_sub (C.n + T.length), w.frz_own (C.n + T.length) ρ (T ++ [(v, .v d)]) (fun i m' e' => .inl ⟨e', ?_⟩) (fun j v' m' e' => ?_)⟩
  · have := w.slot_lt e'
    omega
  · by_cases hj : j < T.length
    · rw [List.getElem?_append_left hj] at e'
      exact .inl ⟨by rw [List.getElem?_append_left hj]; exact e', by omega⟩
    · have hj2 : j = T.length := by
        have := (List.getElem?_eq_some_iff.mp e').1
        simp at this
        omega
      subst hj2
      rw [List.getElem?_append_right (Nat.le_refl _)] at e'
      simp at e'
      obtain ⟨rfl, rfl⟩ := e'
      exact .inr ⟨d, rfl, r⟩
/-- a slot is frozen -/
theorem Own.frzS (w : Own C Z H o σ ρ T) (h : ρ[i]? = some (some m)) (e : m.asD = some d) : ∃ Z' o' v, Sub Z Z' ∧ σ[i]? = some (some v) ∧ RD C.cls Z' v d ∧ Own C Z' H o' σ (ρ.set i (some (.v d))) T := by
  obtain ⟨v, hv, r0⟩ := w.sl i m h
  have hi := w.slot_lt h
  have r : RD C.cls (frz o i Z H) v d := r0.frozen e (w.frz_sub _) fun a u p q => by
    rw [frz_at p]; exact q
  refine ⟨_, _, v, w.frz_sub i, hv, r, w.frz_own i _ T (fun j m' e' => ?_) (fun j v' m' e' => .inl ⟨e', by omega⟩)⟩
  by_cases hj : i = j
  · subst hj
    have hr : i < ρ.length := by
      have := (List.getElem?_eq_some_iff.mp e').1
      simpa using this
    rw [List.getElem?_set_self hr] at e'
    cases e'
    exact .inr ⟨v, hv, d, rfl, r⟩
  · rw [List.getElem?_set_ne hj] at e'
    exact .inl ⟨e', Ne.symm hj⟩
/-- data in a slot is copied -/
theorem Own.copy (w : Own C Z H o σ ρ T) (h : ρ[i]? = some (some (.v d))) (hv : σ[i]? = some (some v)) : ∃ o', Own C Z H o' σ ρ (T ++ [(v, .v d)]) := by
  obtain ⟨v', h1, r⟩ := w.sl i _ h
  rw [hv] at h1
  cases h1
  exact w.push Sub.rfl' Sub.rfl' w.zh (fun a u e => .inl e) (show RM C.cls Z H _ v (.v d) from r)
end
end FW
end

section
set_option Elab.async false
set_option linter.all false
set_option maxRecDepth 100000
set_option autoImplicit false
/-! FW2: the judgements: which plain function an expression, a test, a list of arguments, a statement computes. -/
namespace FW
open PySem PySem.Spec PyProof.Rows L2

inductive Src where
  | slot (i : Nat)
  | tmp (m : M)
inductive Res (α : Type) where
  | ok (a : α) (ρ : Env)
  | exc (c : Str) (d : D) (ρ : Env)
  | stuck
def Res.bind {α β : Type} (r : Res α) (k : α → Env → Res β) : Res β := match r with
  | .ok a ρ => k a ρ
  | .exc c d ρ => .exc c d ρ
  | .stuck => .stuck
theorem Res.bind_ok {α β : Type} (a : α) (ρ : Env) (k : α → Env → Res β) : (Res.ok a ρ).bind k = k a ρ := rfl
theorem Res.bind_exc {α β : Type} (c : Str) (d : D) (ρ : Env) (k : α → Env → Res β) : (Res.exc c d ρ).bind k = .exc c d ρ := rfl
theorem Res.bind_stuck {α β : Type} (k : α → Env → Res β) : (Res.stuck).bind k = .stuck := rfl
abbrev JF := Env → Res Src
abbrev AF := Env → Res (List Src)
abbrev TF := Env → Res Bool

def slotOf (ρ : Env) (i : Nat) : Option M := match ρ[i]? with
  | some (some m) => some m
  | _ => none
theorem slotOf_some {ρ : Env} {i : Nat} {m : M} (h : slotOf ρ i = some m) : ρ[i]? = some (some m) := by
  unfold slotOf at h
  split at h
  · rename_i h2
    cases h
    exact h2
  · cases h
def Src.get (ρ : Env) : Src → Option M
  | .slot i => slotOf ρ i
  | .tmp m => some m
def gets (ρ : Env) : List Src → Option (List M)
  | [] => some []
  | s :: ss => match s.get ρ, gets ρ ss with
    | some m, some ms => some (m :: ms)
    | _, _ => none

/-- an exception in the air -/
def Exc (cls : Cls) (Z H : Hp) (c : Str) (d : D) (cl dx : Addr) : Prop :=
  ∃ (f : Str) (y : V), cls.f c = some (cl, f) ∧ H dx = some (.xd [(f, y)]) ∧ Z dx = some (.xd [(f, y)]) ∧ RD cls Z y d

/-- where a result stands: T the temporaries ahead of it, T' behind it -/
def At (σ : St) (T T' : List (V × M)) (v : V) : Src → Prop
  | .slot i => σ[i]? = some (some v) ∧ T' = T
  | .tmp m => T' = T ++ [(v, m)]
def Ats (σ : St) : List (V × M) → List (V × M) → List V → List Src → Prop
  | T, T', vs, [] => vs = [] ∧ T' = T
  | T, T', vs, s :: ss => ∃ v r T1, vs = v :: r ∧ At σ T T1 v s ∧ Ats σ T1 T' r ss

section
variable (C : Base) (W : WX)
def kJ (σ : St) (T : List (V × M)) (r : Res Src) (Q : VK) : Prop := match r with
  | .ok s ρ => ∀ Z H o v T', Own C Z H o σ ρ T' → At σ T T' v s → Q v H
  | .exc c d ρ => ∀ Z H o cl dx, Own C Z H o σ ρ T → Exc C.cls Z H c d cl dx → W (.ref cl) (some dx) σ H
  | .stuck => False
def tJ (f : JF) : TE := fun σ H Q => ∃ Zb Z o ρ T, Own (C.at Zb) Z H o σ ρ T ∧ kJ (C.at Zb) W σ T (f ρ) Q
def kA (σ : St) (T : List (V × M)) (r : Res (List Src)) (Q : List V → Hp → Prop) : Prop := match r with
  | .ok ss ρ => ∀ Z H o vs T', Own C Z H o σ ρ T' → Ats σ T T' vs ss → Q vs H
  | .exc c d ρ => ∀ Z H o cl dx, Own C Z H o σ ρ T → Exc C.cls Z H c d cl dx → W (.ref cl) (some dx) σ H
  | .stuck => False
def tA (f : AF) : TA := fun σ H Q => ∃ Zb Z o ρ T, Own (C.at Zb) Z H o σ ρ T ∧ kA (C.at Zb) W σ T (f ρ) Q
def kT (σ : St) (T : List (V × M)) (r : Res Bool) (Q : Bool → Hp → Prop) : Prop := match r with
  | .ok b ρ => ∀ Z H o, Own C Z H o σ ρ T → Q b H
  | .exc c d ρ => ∀ Z H o cl dx, Own C Z H o σ ρ T → Exc C.cls Z H c d cl dx → W (.ref cl) (some dx) σ H
  | .stuck => False
def tT (f : TF) : TT := fun σ H Q => ∃ Zb Z o ρ T, Own (C.at Zb) Z H o σ ρ T ∧ kT (C.at Zb) W σ T (f ρ) Q
end

abbrev JE (X : Cx) (C : Base) (W : WX) (e : Expr) (f : JF) : Prop := PE X e (tJ C W f)
abbrev JA (X : Cx) (C : Base) (W : WX) (es : List Expr) (f : AF) : Prop := PA X es (tA C W f)
abbrev JT (X : Cx) (C : Base) (W : WX) (e : Expr) (f : TF) : Prop := PT X e (tT C W f)
abbrev JW (X : Cx) (C : Base) (W : WX) (e : Expr) (f : TF) : Prop := PW X e (tT C W f)

inductive Fl where
  | nx (ρ : Env)
  | rt (m : M) (ρ : Env)
  | bk (ρ : Env)
  | ct (ρ : Env)
  | exc (c : Str) (d : D) (ρ : Env)
  | stuck
abbrev SF := Env → Fl
section
variable (C : Base) (W : WX)
def kS (r : Fl) (D : Ends) : Prop := match r with
  | .nx ρ => ∀ Z H o σ, Own C Z H o σ ρ [] → D.nx σ H
  | .rt m ρ => ∀ Z H o σ v, Own C Z H o σ ρ [(v, m)] → D.rt v H
  | .bk ρ => ∀ Z H o σ, Own C Z H o σ ρ [] → D.bk σ H
  | .ct ρ => ∀ Z H o σ, Own C Z H o σ ρ [] → D.ct σ H
  | .exc c d ρ => ∀ Z H o σ cl dx, Own C Z H o σ ρ [] → Exc C.cls Z H c d cl dx → W (.ref cl) (some dx) σ H
  | .stuck => False
def tS (g : SF) : TS := fun D σ H => ∃ Zb Z o ρ, Own (C.at Zb) Z H o σ ρ [] ∧ kS (C.at Zb) W (g ρ) D
end
abbrev JS (X : Cx) (C : Base) (W : WX) (st : Stmt) (g : SF) : Prop := PS X st (tS C W g)
abbrev JSs (X : Cx) (C : Base) (W : WX) (st : List Stmt) (g : SF) : Prop := PSs X st (tS C W g)

/-! ### weakening -/
section
variable {X : Cx} {e : Expr} {es : List Expr} {st : Stmt} {sts : List Stmt}
theorem PE.imp {t t' : TE} (h : PE X e t) (i : ∀ σ H Q, t' σ H Q → t σ H Q) : PE X e t' := ⟨fun pins s σ H Q I q => h.run pins s σ H Q I (i σ H Q q)⟩
theorem PT.imp {t t' : TT} (h : PT X e t) (i : ∀ σ H Q, t' σ H Q → t σ H Q) : PT X e t' := ⟨fun pins s σ H Q I q => h.run pins s σ H Q I (i σ H Q q)⟩
theorem PW.imp {t t' : TT} (h : PW X e t) (i : ∀ σ H Q, t' σ H Q → t σ H Q) : PW X e t' := ⟨fun wh pins s σ H Q I q => h.run wh pins s σ H Q I (i σ H Q q)⟩
theorem PA.imp {t t' : TA} (h : PA X es t) (i : ∀ σ H Q, t' σ H Q → t σ H Q) : PA X es t' := ⟨fun p pins s σ H Q I q => h.run p pins s σ H Q I (i σ H Q q)⟩
theorem PS.imp {t t' : TS} (h : PS X st t) (i : ∀ D σ H, t' D σ H → t D σ H) : PS X st t' := ⟨fun pins s σ H D I q => h.run pins s σ H D I (i D σ H q)⟩
theorem PSs.imp {t t' : TS} (h : PSs X sts t) (i : ∀ D σ H, t' D σ H → t D σ H) : PSs X sts t' := ⟨fun pins s σ H D I q => h.run pins s σ H D I (i D σ H q)⟩
end

section
variable {K : PySem.W.Frag} {C : Base} {W : WX} {Z H : Hp} {o : Addr → Option Nat} {σ : St} {ρ : Env} {T T' T'' : List (V × M)} {v : V} {vs : List V} {m : M} {s : Src} {ss : List Src}
theorem At.pre (h : At σ T T' v s) : ∃ R, T' = T ++ R := by
  cases s with
  | slot i => exact ⟨[], by rw [h.2, List.append_nil]⟩
  | tmp m => exact ⟨_, h⟩
theorem Ats.pre : ∀ {ss : List Src} {T T' : List (V × M)} {vs : List V}, Ats σ T T' vs ss → ∃ R, T' = T ++ R
  | [], _, _, _, h => ⟨[], by rw [h.2, List.append_nil]⟩
  | s :: ss, _, _, _, h => by
    obtain ⟨v, r, T1, _, h1, h2⟩ := h
    obtain ⟨R1, rfl⟩ := h1.pre
    obtain ⟨R2, rfl⟩ := Ats.pre h2
    exact ⟨R1 ++ R2, by rw [List.append_assoc]⟩
theorem Own.cut {R : List (V × M)} (w : Own C Z H o σ ρ T') (e : T' = T ++ R) : Own C Z H o σ ρ T := by
  subst e
  exact w.drop
theorem At.rm (h : At σ T T' v s) (w : Own C Z H o σ ρ T'') {R : List (V × M)} (e : T'' = T' ++ R) (g : s.get ρ = some m) : ∃ P, RM C.cls Z H P v m := by
  cases s with
  | slot i =>
    obtain ⟨v', h1, h2⟩ := w.sl i m (slotOf_some g)
    rw [h.1] at h1
    cases h1
    exact ⟨_, h2⟩
  | tmp m' =>
    obtain rfl : m' = m := Option.some.inj g
    refine ⟨_, w.tp T.length v m' ?_⟩
    rw [e, show T' = T ++ [(v, m')] from h, List.append_assoc, List.getElem?_append_right (Nat.le_refl _)]
    simp
/-- the values stand for what the sources hold -/
def RMs (cls : Cls) (Z H : Hp) : List V → List M → Prop
  | [], ms => ms = []
  | v :: vs, ms => ∃ m r, ms = m :: r ∧ (∃ P, RM cls Z H P v m) ∧ RMs cls Z H vs r
theorem Ats.rms : ∀ {ss : List Src} {T T' : List (V × M)} {vs : List V} {ms : List M} {R : List (V × M)}, Ats σ T T' vs ss → Own C Z H o σ ρ T'' → T'' = T' ++ R → gets ρ ss = some ms → RMs C.cls Z H vs ms
  | [], _, _, _, _, _, h, _, _, g => by
    obtain ⟨rfl, _⟩ := h
    cases g
    rfl
  | s :: ss, T, T', _, ms, R, h, w, e, g => by
    obtain ⟨v, r, T1, rfl, h1, h2⟩ := h
    unfold gets at g
    split at g
    · rename_i m ms' g1 g2
      cases g
      obtain ⟨R1, e1⟩ := Ats.pre h2
      refine ⟨m, ms', rfl, h1.rm w (R := R1 ++ R) (by rw [e, e1, List.append_assoc]) g1, Ats.rms h2 w e g2⟩
    · cases g
end

/-! ### names, constants -/
section
variable {X : Cx} {C : Base} {W : WX} {e : Expr} {f : JF} {pos : Pos}
def jVar (i : Nat) : JF := fun ρ => match slotOf ρ i with
  | some _ => .ok (.slot i) ρ
  | none => .stuck
theorem je_var {i : Nat} {x : Str} (hN : X.N[i]? = some x) (hv : Vis X.env.scope x) (hd : (x == ("__debug__" : Str)) = false := by decide) (hcd : (x == ("__classdict__" : Str)) = false := by decide) : JE X C W (.Name x pos) (jVar i) := by
  refine PE.imp (pe_var hN hv hd hcd) fun σ H Q h => ?_
  obtain ⟨Zb, Z, o, ρ, T, w, k⟩ := h
  unfold jVar at k
  cases g : slotOf ρ i with
  | none => rw [g] at k; exact k.elim
  | some m =>
    rw [g] at k
    obtain ⟨v, h1, _⟩ := w.sl i m (slotOf_some g)
    exact ⟨v, h1, k Z H o v T w ⟨h1, rfl⟩⟩
def jC (d : D) : JF := fun ρ => .ok (.tmp (.v d)) ρ
theorem tJ_c {d : D} {v : V} (hd : ∀ Z, RD C.cls Z v d) {σ : St} {H : Hp} {Q : VK} (h : tJ C W (jC d) σ H Q) : Q v H := by
  obtain ⟨Zb, Z, o, ρ, T, w, k⟩ := h
  obtain ⟨o', w'⟩ := w.push (v := v) (m := .v d) Sub.rfl' Sub.rfl' w.zh (fun a u e => .inl e) (hd Z)
  exact k Z H o' v _ w' rfl
theorem je_int {i : Int} {j} : JE X C W (.Constant (.int i) j pos) (jC (.int i)) := PE.imp pe_int fun _ _ _ h => tJ_c (fun _ => .int i) h
theorem je_bl {b : Bool} {j} : JE X C W (.Constant (.bool b) j pos) (jC (.bool b)) := PE.imp pe_bl fun _ _ _ h => tJ_c (fun _ => .bl b) h
theorem je_non {j} : JE X C W (.Constant .none j pos) (jC .none) := PE.imp pe_non fun _ _ _ h => tJ_c (fun _ => .non) h
theorem je_str {x : Str} {j} : JE X C W (.Constant (.str x) j pos) (jC (.str x)) := PE.imp pe_str fun _ _ _ h => tJ_c (fun _ => .str x) h
/-- a constant of the module -/
theorem je_gc {x : Str} {v : V} {u : Value} {d : D} (hg : Gl X x) (hm : X.mg x = some u) (r : RelV v u) (hd : ∀ Z, RD C.cls Z v d) (hdb : (x == ("__debug__" : Str)) = false := by decide) : JE X C W (.Name x pos) (jC d) := PE.imp (pe_glob hg hm r hdb) fun _ _ _ h => tJ_c hd h

/-! ### how a result is used -/
/-- for good: it is frozen, a slot too -/
def jFrz (f : JF) : JF := fun ρ => (f ρ).bind fun s ρ1 => match s with
  | .slot i => match slotOf ρ1 i with
    | some m => match m.asD with
      | some d => .ok (.tmp (.v d)) (ρ1.set i (some (.v d)))
      | none => .stuck
    | none => .stuck
  | .tmp m => match m.asD with
    | some d => .ok (.tmp (.v d)) ρ1
    | none => .stuck
/-- moved out of its slot -/
def jMove (f : JF) : JF := fun ρ => (f ρ).bind fun s ρ1 => match s with
  | .slot i => match slotOf ρ1 i with
    | some m => .ok (.tmp m) (ρ1.set i none)
    | none => .stuck
  | .tmp m => .ok (.tmp m) ρ1
theorem tJ_frz {σ : St} {H : Hp} {Q : VK} (h : tJ C W (jFrz f) σ H Q) : tJ C W f σ H Q := by
  obtain ⟨Zb, Z, o, ρ, T, w, k⟩ := h
  refine ⟨Zb, Z, o, ρ, T, w, ?_⟩
  unfold jFrz at k
  cases hf : f ρ with
  | stuck => rw [hf] at k; exact k
  | exc c d ρ1 => rw [hf] at k; exact k
  | ok s ρ1 =>
    rw [hf] at k
    intro Z1 H1 o1 v T1 w1 a1
    simp only [Res.bind] at k
    cases s with
    | slot i =>
      simp only at k
      obtain ⟨a1, rfl⟩ := a1
      cases g : slotOf ρ1 i with
      | none => rw [g] at k; exact k.elim
      | some m =>
        rw [g] at k
        have data : ∀ d, m.asD = some d → kJ (C.at Zb) W σ T1 (.ok (.tmp (.v d)) (ρ1.set i (some (.v d)))) Q → Q v H1 := fun d e k => by
          obtain ⟨Z2, o2, v2, _, h2, r2, w2⟩ := w1.frzS (slotOf_some g) e
          rw [a1] at h2
          cases h2
          obtain ⟨o3, w3⟩ := w2.push (v := v) (m := .v d) Sub.rfl' Sub.rfl' w2.zh (fun a u e => .inl e) r2
          exact k Z2 H1 o3 v _ w3 rfl
        cases m with
        | v d => exact data _ rfl k
        | ml xs => exact data _ rfl k
        | mll xs => exact data _ rfl k
        | md xs => exact k.elim
        | mt xs => exact k.elim
        | sc xs => exact k.elim
    | tmp m =>
      have a1 : T1 = T ++ [(v, m)] := a1
      subst a1
      have data : ∀ d, m.asD = some d → kJ (C.at Zb) W σ T (.ok (.tmp (.v d)) ρ1) Q → Q v H1 := fun d e k => by
        obtain ⟨Z2, o2, _, w2⟩ := w1.frzT e
        exact k Z2 H1 o2 v _ w2 rfl
      cases m with
      | v d => exact data _ rfl k
      | ml xs => exact data _ rfl k
      | mll xs => exact data _ rfl k
      | md xs => exact k.elim
      | mt xs => exact k.elim
      | sc xs => exact k.elim
theorem tJ_move {σ : St} {H : Hp} {Q : VK} (h : tJ C W (jMove f) σ H Q) : tJ C W f σ H Q := by
  obtain ⟨Zb, Z, o, ρ, T, w, k⟩ := h
  refine ⟨Zb, Z, o, ρ, T, w, ?_⟩
  unfold jMove at k
  cases hf : f ρ with
  | stuck => rw [hf] at k; exact k
  | exc c d ρ1 => rw [hf] at k; exact k
  | ok s ρ1 =>
    rw [hf] at k
    intro Z1 H1 o1 v T1 w1 a1
    simp only [Res.bind] at k
    cases s with
    | slot i =>
      simp only at k
      obtain ⟨a1, rfl⟩ := a1
      cases g : slotOf ρ1 i with
      | none => rw [g] at k; exact k.elim
      | some m =>
        rw [g] at k
        obtain ⟨o2, w2⟩ := w1.move (slotOf_some g) a1
        exact k Z1 H1 o2 v _ w2 rfl
    | tmp m => exact k Z1 H1 o1 v _ w1 a1
theorem je_frz (h : JE X C W e f) : JE X C W e (jFrz f) := PE.imp h fun _ _ _ => tJ_frz
theorem je_move (h : JE X C W e f) : JE X C W e (jMove f) := PE.imp h fun _ _ _ => tJ_move
end

/-! ### arguments -/
section
variable {X : Cx} {C : Base} {W : WX} {e : Expr} {es : List Expr} {f : JF} {g : AF} {pos : Pos}
def aNil : AF := fun ρ => .ok [] ρ
def aCons (f : JF) (g : AF) : AF := fun ρ => (f ρ).bind fun s ρ1 => (g ρ1).bind fun ss ρ2 => .ok (s :: ss) ρ2
theorem ja_nil : JA X C W [] aNil := by
  refine PA.imp pa_nil fun σ H Q h => ?_
  obtain ⟨Zb, Z, o, ρ, T, w, k⟩ := h
  exact k Z H o [] T w ⟨rfl, rfl⟩
theorem tA_cons {σ : St} {H : Hp} {Q : List V → Hp → Prop} (h : tA C W (aCons f g) σ H Q) : tCons (tJ C W f) (tA C W g) σ H Q := by
  obtain ⟨Zb, Z, o, ρ, T, w, k⟩ := h
  refine ⟨Zb, Z, o, ρ, T, w, ?_⟩
  unfold aCons at k
  cases hf : f ρ with
  | stuck => rw [hf] at k; exact k
  | exc c d ρ1 => rw [hf] at k; exact k
  | ok s ρ1 =>
    rw [hf] at k
    simp only [Res.bind_ok] at k
    intro Z1 H1 o1 v T1 w1 a1
    refine ⟨_, Z1, o1, ρ1, T1, w1, ?_⟩
    cases hg : g ρ1 with
    | stuck => rw [hg] at k; exact k
    | exc c d ρ2 =>
      rw [hg] at k
      intro Z2 H2 o2 cl dx w2 x2
      obtain ⟨R, e1⟩ := a1.pre
      exact k Z2 H2 o2 cl dx (w2.cut e1) x2
    | ok ss ρ2 =>
      rw [hg] at k
      intro Z2 H2 o2 vs T2 w2 a2
      exact k Z2 H2 o2 (v :: vs) T2 w2 ⟨v, vs, T1, rfl, a1, a2⟩
theorem ja_cons (ha : JE X C W e f) (hr : JA X C W es g) (hs : starEach (e :: es) X.env = (false, eval e X.env) :: starEach es X.env := by rfl) : JA X C W (e :: es) (aCons f g) :=
  PA.imp (pa_cons ha hr hs) fun _ _ _ => tA_cons
end

/-! ### operators, calls of what is pure -/
/-- what an operation on values computes -/
def OpS (cls : Cls) (r : R2) (F : M → M → Option M) : Prop :=
  ∀ (Z H : Hp) (x y : V) (a b m : M) (P P' : Addr → Prop) (Q : VK), Sub Z H → RM cls Z H P x a → RM cls Z H P' y b → F a b = some m → Give cls Z H m Q → r x y H Q
def UnS (cls : Cls) (r : V → Hp → VK → Prop) (F : M → Option M) : Prop :=
  ∀ (Z H : Hp) (x : V) (a m : M) (P : Addr → Prop) (Q : VK), Sub Z H → RM cls Z H P x a → F a = some m → Give cls Z H m Q → r x H Q
def CallS (cls : Cls) (r : List V → Hp → VK → Prop) (F : List M → Option M) : Prop :=
  ∀ (Z H : Hp) (vs : List V) (ms : List M) (m : M) (Q : VK), Sub Z H → RMs cls Z H vs ms → F ms = some m → Give cls Z H m Q → r vs H Q
def res (m : Option M) (ρ : Env) : Res Src := match m with
  | some m => .ok (.tmp m) ρ
  | none => .stuck
def app1 (F : M → Option M) (a : Option M) (ρ : Env) : Res Src := match a with
  | some a => res (F a) ρ
  | none => .stuck
def app2 (F : M → M → Option M) (a b : Option M) (ρ : Env) : Res Src := match a, b with
  | some a, some b => res (F a b) ρ
  | _, _ => .stuck
def appN (F : List M → Option M) (a : Option (List M)) (ρ : Env) : Res Src := match a with
  | some a => res (F a) ρ
  | none => .stuck
def jBin (F : M → M → Option M) (f g : JF) : JF := fun ρ => (f ρ).bind fun s ρ1 => (g ρ1).bind fun s' ρ2 => app2 F (s.get ρ2) (s'.get ρ2) ρ2
def jUn (F : M → Option M) (f : JF) : JF := fun ρ => (f ρ).bind fun s ρ1 => app1 F (s.get ρ1) ρ1
def jCall (F : List M → Option M) (g : AF) : JF := fun ρ => (g ρ).bind fun ss ρ1 => appN F (gets ρ1 ss) ρ1

section
variable {X : Cx} {C : Base} {W : WX} {e a b : Expr} {es : List Expr} {f g : JF} {h : AF} {pos : Pos}
theorem kJ_res {σ : St} {T : List (V × M)} {m : Option M} {ρ : Env} {Q : VK} {Z H : Hp} {o : Addr → Option Nat} (w : Own C Z H o σ ρ T) (k : kJ C W σ T (res m ρ) Q) : ∃ m', m = some m' ∧ Give C.cls Z H m' Q := by
  cases m with
  | none => exact k.elim
  | some m => exact ⟨m, rfl, w.give fun v Z' H' o' w' => k Z' H' o' v _ w' rfl⟩
theorem tJ_bin {r : R2} {F : M → M → Option M} (hr : OpS C.cls r F) {σ : St} {H : Hp} {Q : VK} (h : tJ C W (jBin F f g) σ H Q) : tOp r (tJ C W f) (tJ C W g) σ H Q := by
  obtain ⟨Zb, Z, o, ρ, T, w, k⟩ := h
  refine ⟨Zb, Z, o, ρ, T, w, ?_⟩
  unfold jBin at k
  cases hf : f ρ with
  | stuck => rw [hf] at k; exact k
  | exc c d ρ1 => rw [hf] at k; exact k
  | ok s ρ1 =>
    rw [hf] at k
    simp only [Res.bind_ok] at k
    intro Z1 H1 o1 v T1 w1 a1
    refine ⟨_, Z1, o1, ρ1, T1, w1, ?_⟩
    cases hg : g ρ1 with
    | stuck => rw [hg] at k; exact k
    | exc c d ρ2 =>
      rw [hg] at k
      intro Z2 H2 o2 cl dx w2 x2
      obtain ⟨R, e1⟩ := a1.pre
      exact k Z2 H2 o2 cl dx (w2.cut e1) x2
    | ok s' ρ2 =>
      rw [hg] at k
      simp only [Res.bind_ok] at k
      intro Z2 H2 o2 v' T2 w2 a2
      obtain ⟨R1, e1⟩ := a1.pre
      obtain ⟨R2, e2⟩ := a2.pre
      cases g1 : s.get ρ2 with
      | none => rw [g1] at k; exact k.elim
      | some x =>
        cases g2 : s'.get ρ2 with
        | none => rw [g1, g2] at k; exact k.elim
        | some y =>
          rw [g1, g2] at k
          obtain ⟨P, r1⟩ := a1.rm w2 e2 g1
          obtain ⟨P', r2⟩ := a2.rm w2 (List.append_nil _).symm g2
          obtain ⟨m, e3, k⟩ := kJ_res ((w2.cut e2).cut e1) k
          exact hr Z2 H2 v v' x y m P P' Q w2.zh r1 r2 e3 k
theorem je_bin {op : Operator} {r : R2} {F : M → M → Option M} (ho : OpR X (binaryOp op) r) (hr : OpS C.cls r F) (ha : JE X C W a f) (hb : JE X C W b g) : JE X C W (.BinOp a op b pos) (jBin F f g) :=
  PE.imp (pe_op ho ha hb) fun _ _ _ => tJ_bin hr
theorem je_cmp {op : CmpOp} {r : R2} {F : M → M → Option M} (ho : OpR X (compareOp op) r) (hr : OpS C.cls r F) (ha : JE X C W a f) (hb : JE X C W b g) (hm : behindInMarks op b = false) : JE X C W (.Compare a [op] [b] pos) (jBin F f g) :=
  PE.imp (pe_cmpR ho ha hb hm) fun _ _ _ => tJ_bin hr
theorem je_ix {r : R2} {F : M → M → Option M} (ho : IxR X r) (hr : OpS C.cls r F) (ha : JE X C W a f) (hb : JE X C W b g) (hs : PlainIx b) : JE X C W (.Subscript a b pos) (jBin F f g) :=
  PE.imp (pe_ix ho ha hb hs) fun _ _ _ => tJ_bin hr
theorem tJ_un {r : V → Hp → VK → Prop} {F : M → Option M} (hr : UnS C.cls r F) {σ : St} {H : Hp} {Q : VK} (h : tJ C W (jUn F f) σ H Q) : tUn r (tJ C W f) σ H Q := by
  obtain ⟨Zb, Z, o, ρ, T, w, k⟩ := h
  refine ⟨Zb, Z, o, ρ, T, w, ?_⟩
  unfold jUn at k
  cases hf : f ρ with
  | stuck => rw [hf] at k; exact k
  | exc c d ρ1 => rw [hf] at k; exact k
  | ok s ρ1 =>
    rw [hf] at k
    simp only [Res.bind_ok] at k
    intro Z1 H1 o1 v T1 w1 a1
    obtain ⟨R1, e1⟩ := a1.pre
    cases g1 : s.get ρ1 with
    | none => rw [g1] at k; exact k.elim
    | some x =>
      rw [g1] at k
      obtain ⟨P, r1⟩ := a1.rm w1 (List.append_nil _).symm g1
      obtain ⟨m, e3, k⟩ := kJ_res (w1.cut e1) k
      exact hr Z1 H1 v x m P Q w1.zh r1 e3 k
theorem je_un {op : UnaryOp} {r : V → Hp → VK → Prop} {F : M → Option M} (ho : UnR X (unaryOp op) r) (hr : UnS C.cls r F) (ha : JE X C W a f) : JE X C W (.UnaryOp op a pos) (jUn F f) :=
  PE.imp (pe_un ho ha) fun _ _ _ => tJ_un hr
theorem tJ_call {r : List V → Hp → VK → Prop} {F : List M → Option M} (hr : CallS C.cls r F) {σ : St} {H : Hp} {Q : VK} (k0 : tJ C W (jCall F h) σ H Q) : tCB r (tA C W h) σ H Q := by
  obtain ⟨Zb, Z, o, ρ, T, w, k⟩ := k0
  refine ⟨Zb, Z, o, ρ, T, w, ?_⟩
  unfold jCall at k
  cases hf : h ρ with
  | stuck => rw [hf] at k; exact k
  | exc c d ρ1 => rw [hf] at k; exact k
  | ok ss ρ1 =>
    rw [hf] at k
    simp only [Res.bind_ok] at k
    intro Z1 H1 o1 vs T1 w1 a1
    obtain ⟨R1, e1⟩ := a1.pre
    cases g1 : gets ρ1 ss with
    | none => rw [g1] at k; exact k.elim
    | some ms =>
      rw [g1] at k
      have r1 := a1.rms w1 (List.append_nil _).symm g1
      obtain ⟨m, e3, k⟩ := kJ_res (w1.cut e1) k
      exact hr Z1 H1 vs ms m Q w1.zh r1 e3 k
theorem je_callB {x : Str} {p : Pos} {id : String} {r : List V → Hp → VK → Prop} {F : List M → Option M} (hc : CallR X (.builtin id) r) (hr : CallS C.cls r F) (hg : Gl X x) (hm : X.mg x = none) (hv : bootBuiltins x = some (.builtin id)) (ha : JA X C W (e :: es) h)
    (hn : x ≠ "__name__" := by decide) (hdb : (x == ("__debug__" : Str)) = false := by decide) (he : starEach (e :: es) X.env = (false, eval e X.env) :: starEach es X.env := by rfl) (hpl : (backTo pos (starEach es X.env)).any (·.1) = false := by rfl) :
    JE X C W (.Call (.Name x p) (e :: es) [] pos) (jCall F h) :=
  PE.imp (pe_callB hc hg hm hv ha hn hdb he hpl) fun _ _ _ => tJ_call hr
theorem je_callTy {x : Str} {p : Pos} {ty : String} {r : List V → Hp → VK → Prop} {F : List M → Option M} (hc : CallR X (.type ty) r) (hr : CallS C.cls r F) (hg : Gl X x) (hm : X.mg x = none) (hv : bootBuiltins x = some (.type ty)) (ha : JA X C W (e :: es) h)
    (hn : x ≠ "__name__" := by decide) (hdb : (x == ("__debug__" : Str)) = false := by decide) (he : starEach (e :: es) X.env = (false, eval e X.env) :: starEach es X.env := by rfl) (hpl : (backTo pos (starEach es X.env)).any (·.1) = false := by rfl) :
    JE X C W (.Call (.Name x p) (e :: es) [] pos) (jCall F h) :=
  PE.imp (pe_callTy hc hg hm hv ha hn hdb he hpl) fun _ _ _ => tJ_call hr
/-- displays -/
def datas : List M → Option (List D)
  | [] => some []
  | .v d :: r => match datas r with
    | some ds => some (d :: ds)
    | none => none
  | _ => none
theorem RMs.datas {cls : Cls} {Z H : Hp} : ∀ {ms : List M} {vs : List V} {ds : List D}, RMs cls Z H vs ms → datas ms = some ds → RDs cls Z vs ds
  | [], vs, ds, h, e => by
    cases vs with
    | nil => cases e; exact .nil
    | cons v vs =>
      obtain ⟨m, r, e, _⟩ := h
      cases e
  | m :: ms, vs, ds, h, e => by
    cases vs with
    | nil => cases (show m :: ms = [] from h)
    | cons v vs =>
      obtain ⟨m', r, e', ⟨P, h1⟩, h2⟩ := h
      cases e'
      cases m with
      | v d =>
        unfold FW.datas at e
        split at e
        · rename_i ds' e2
          cases e
          exact .cons h1 (RMs.datas h2 e2)
        · cases e
      | _ => cases e
def sizeOk (n : Nat) : Bool := Nat.ble n 1000000
theorem sizeOk_le {n : Nat} (h : sizeOk n = true) : n ≤ sizeLine := by
  have := Nat.le_of_ble_eq_true h
  rw [sizeLine_eq]
  omega
def mTup (ms : List M) : Option M := match datas ms with
  | some ds => if sizeOk ds.length then some (.v (.tuple ds)) else none
  | none => none
def mLst (ms : List M) : Option M := match datas ms with
  | some ds => if sizeOk ds.length then some (.ml ds) else none
  | none => none
theorem cs_tup {cls : Cls} : CallS cls (fun xs H1 Q => xs.length ≤ sizeLine ∧ ∀ p, H1 p = none → Q (.ref p) (upd H1 p (.tup xs))) mTup := by
  intro Z H vs ms m Q hs hr hf q
  unfold mTup at hf
  split at hf
  · rename_i ds hd
    have r := hr.datas hd
    split at hf
    · rename_i hz
      cases hf
      refine ⟨by rw [r.length]; exact sizeOk_le hz, fun p hp => q (.ref p) (upd Z p (.tup vs)) _ (Sub.new (hs.none hp)) (Sub.new hp) hs.upd (fun a u e => ?_) ?_⟩
      · by_cases ha : a = p
        · subst ha; rw [upd_same] at e; cases e; exact .inr ⟨hp, fun ps z => nomatch z⟩
        · rw [upd_ne ha] at e; exact .inl e
      · exact .tup upd_same ((Sub.new (hs.none hp)).dps _ _ r)
    · cases hf
  · cases hf
theorem give_ml {cls : Cls} {Z H : Hp} {Q : VK} {vs : List V} {ds : List D} {p : Addr} (hs : Sub Z H) (r : RDs cls Z vs ds) (hp : H p = none) (q : Give cls Z H (.ml ds) Q) : Q (.ref p) (upd H p (.lst vs)) :=
  q (.ref p) Z _ Sub.rfl' (Sub.new hp) (hs.updR (hs.none hp)) (fun a u e => .inl e) ⟨p, vs, rfl, ⟨hp, hs.none hp⟩, upd_same, r⟩
theorem give_v {cls : Cls} {Z H : Hp} {Q : VK} {v : V} {d : D} (hs : Sub Z H) (r : RD cls Z v d) (q : Give cls Z H (.v d) Q) : Q v H :=
  q v Z H Sub.rfl' Sub.rfl' hs (fun a u e => .inl e) r
theorem cs_lst {cls : Cls} : CallS cls (fun xs H1 Q => xs.length ≤ sizeLine ∧ ∀ p, H1 p = none → Q (.ref p) (upd H1 p (.lst xs))) mLst := by
  intro Z H vs ms m Q hs hr hf q
  unfold mLst at hf
  split at hf
  · rename_i ds hd
    have r := hr.datas hd
    split at hf
    · rename_i hz
      cases hf
      exact ⟨by rw [r.length]; exact sizeOk_le hz, fun p hp => give_ml hs r hp q⟩
    · cases hf
  · cases hf
theorem je_tup {x1} (ha : JA X C W es h) : JE X C W (.Tuple es x1 pos) (jCall mTup h) := PE.imp (pe_tup ha) fun _ _ _ k => tJ_call cs_tup k
theorem je_lst (ha : JA X C W es h) : JE X C W (.List es pos) (jCall mLst h) := PE.imp (pe_lst ha) fun _ _ _ k => tJ_call cs_lst k
end
end FW
end

section
set_option Elab.async false
set_option linter.all false
set_option maxRecDepth 100000
set_option autoImplicit false
/-! FW3: tests, statements. -/
namespace FW
open PySem PySem.Spec PyProof.Rows L2

/-! ### truth -/
def M.truth : M → Option Bool
  | .v .none => some false
  | .v (.bool b) => some b
  | .v (.int i) => some (i != 0)
  | .v (.str s) => if sizeOk s.length then some ((s.length : Int) != 0) else none
  | .v (.list ds) => some (!ds.isEmpty)
  | .v (.tuple ds) => some (!ds.isEmpty)
  | .ml ds => some (!ds.isEmpty)
  | .mll ds => some (!ds.isEmpty)
  | .md ds => some (!ds.isEmpty)
  | _ => none
theorem isE {α β : Type} {xs : List α} {ys : List β} (h : xs.length = ys.length) : xs.isEmpty = ys.isEmpty := by
  cases xs <;> cases ys <;> simp_all
theorem RLs.length {cls : Cls} {Z H : Hp} {P : Addr → Prop} : ∀ {as : List Addr} {xss : List (List D)}, RLs cls Z H P as xss → as.length = xss.length
  | [], _, h => by cases (show _ = [] from h); rfl
  | a :: as, _, h => by
    obtain ⟨xs, r, rfl, _, t⟩ := h
    simp [RLs.length t]
theorem truth_ok {K : PySem.W.Frag} {cls : Cls} {Z H : Hp} {P : Addr → Prop} {v : V} {m : M} {b : Bool} (hs : Sub Z H) (r : RM cls Z H P v m) (h : m.truth = some b) : TruV K v H b := by
  cases m with
  | v d =>
    cases r with
    | non => cases h; rfl
    | bl c => cases h; rfl
    | int i => cases h; rfl
    | str x =>
      have h : (if sizeOk x.length then some ((x.length : Int) != 0) else none) = some b := h
      split at h
      · rename_i hz
        cases h
        exact ⟨sizeOk_le hz, rfl⟩
      · cases h
    | lst h1 h2 =>
      cases h
      exact .inl ⟨_, .inl (.inl (hs _ _ h1)), by rw [isE h2.length]⟩
    | exc _ _ _ _ => cases h
    | exm _ _ _ _ _ => cases h
    | tup h1 h2 =>
      cases h
      exact .inr (.inl ⟨_, .inl (.inl (hs _ _ h1)), by rw [isE h2.length]⟩)
  | ml xs =>
    obtain ⟨a, ys, rfl, _, h1, h2⟩ := r
    cases h
    exact .inl ⟨_, .inl (.inl h1), by rw [isE h2.length]⟩
  | mll xss =>
    obtain ⟨a, as, rfl, _, h1, _, _, h2⟩ := r
    cases h
    exact .inl ⟨_, .inl (.inl h1), by rw [isE (show (as.map V.ref).length = xss.length by rw [List.length_map]; exact h2.length)]⟩
  | md kvs =>
    obtain ⟨a, ys, rfl, _, h1, h2⟩ := r
    cases h
    exact .inr (.inr ⟨_, h1, by rw [isE (Paired.length h2)]⟩)
  | mt kvs => cases h
  | sc ns => cases h

def boolR (b : Option Bool) (ρ : Env) : Res Bool := match b with
  | some b => .ok b ρ
  | none => .stuck
def truthO (m : Option M) : Option Bool := match m with
  | some m => m.truth
  | none => none
/-- the truth of a value -/
def tTru (f : JF) : TF := fun ρ => (f ρ).bind fun s ρ1 => boolR (truthO (s.get ρ1)) ρ1
def isBool (m : Option M) : Option Bool := match m with
  | some (.v (.bool b)) => some b
  | _ => none
/-- a value that is True or False -/
def tBo (f : JF) : TF := fun ρ => (f ρ).bind fun s ρ1 => boolR (isBool (s.get ρ1)) ρ1
def tNo (f : TF) : TF := fun ρ => (f ρ).bind fun b ρ1 => .ok (!b) ρ1
def tAn (f g : TF) : TF := fun ρ => (f ρ).bind fun b ρ1 => match b with
  | true => g ρ1
  | false => .ok false ρ1
def tOo (f g : TF) : TF := fun ρ => (f ρ).bind fun b ρ1 => match b with
  | true => .ok true ρ1
  | false => g ρ1

section
variable {X : Cx} {C : Base} {W : WX} {e a b c : Expr} {rest : List Expr} {f g h : JF} {u w : TF} {pos : Pos}
theorem tT_tru {σ : St} {H : Hp} {Q : Bool → Hp → Prop} (k : tT C W (tTru f) σ H Q) : tJ C W f σ H fun x H' => ∃ k, TruV X.K x H' k ∧ Q k H' := by
  obtain ⟨Zb, Z, o, ρ, T, w, k⟩ := k
  refine ⟨Zb, Z, o, ρ, T, w, ?_⟩
  unfold tTru at k
  cases hf : f ρ with
  | stuck => rw [hf] at k; exact k
  | exc c d ρ1 => rw [hf] at k; exact k
  | ok s ρ1 =>
    rw [hf] at k
    simp only [Res.bind_ok] at k
    intro Z1 H1 o1 v T1 w1 a1
    cases g1 : s.get ρ1 with
    | none => rw [g1] at k; exact k.elim
    | some m =>
      rw [g1] at k
      obtain ⟨P, r1⟩ := a1.rm w1 (List.append_nil _).symm g1
      obtain ⟨R, e1⟩ := a1.pre
      cases ht : m.truth with
      | none =>
        simp only [truthO, ht] at k
        exact k.elim
      | some b =>
        simp only [truthO, ht] at k
        exact ⟨b, truth_ok w1.zh r1 ht, k Z1 H1 o1 (w1.cut e1)⟩
theorem dp_bool {cls : Cls} {Z : Hp} {v : V} {b : Bool} (h : RD cls Z v (.bool b)) : v = .bl b := by cases h; rfl
theorem tT_bo {σ : St} {H : Hp} {Q : Bool → Hp → Prop} (k : tT C W (tBo f) σ H Q) : tJ C W f σ H fun x H' => ∃ k, x = .bl k ∧ Q k H' := by
  obtain ⟨Zb, Z, o, ρ, T, w, k⟩ := k
  refine ⟨Zb, Z, o, ρ, T, w, ?_⟩
  unfold tBo at k
  cases hf : f ρ with
  | stuck => rw [hf] at k; exact k
  | exc c d ρ1 => rw [hf] at k; exact k
  | ok s ρ1 =>
    rw [hf] at k
    simp only [Res.bind_ok] at k
    intro Z1 H1 o1 v T1 w1 a1
    obtain ⟨R, e1⟩ := a1.pre
    cases hb : isBool (s.get ρ1) with
    | none => rw [hb] at k; exact k.elim
    | some b =>
      rw [hb] at k
      unfold isBool at hb
      split at hb
      · rename_i b' g1
        cases hb
        obtain ⟨P, r1⟩ := a1.rm w1 (List.append_nil _).symm g1
        exact ⟨b, dp_bool r1, k Z1 H1 o1 (w1.cut e1)⟩
      · cases hb
theorem jt_tru (ha : JE X C W e f) (he : ∀ whole, isTrue e X.env whole = (do let v ← whole; standAt e.pos; holding [v] (truthy v)) := by intro _; rfl) : JT X C W e (tTru f) := PT.imp (pt_truth ha he) fun _ _ _ => tT_tru
theorem jt_cmp {op : CmpOp} {r : R2} {F : M → M → Option M} (ho : OpR X (compareOp op) r) (hr : OpS C.cls r F) (ha : JE X C W a f) (hb : JE X C W b g) (hm : behindInMarks op b = false) : JT X C W (.Compare a [op] [b] pos) (tBo (jBin F f g)) :=
  PT.imp (pt_cmpR ho ha hb hm) fun _ _ _ k => tJ_bin hr (tT_bo k)
theorem jt_not (ha : JT X C W a u) : JT X C W (.UnaryOp .Not a pos) (tNo u) := by
  refine PT.imp (pt_not ha) fun σ H Q k => ?_
  obtain ⟨Zb, Z, o, ρ, T, w, k⟩ := k
  refine ⟨Zb, Z, o, ρ, T, w, ?_⟩
  unfold tNo at k
  cases hf : u ρ with
  | stuck => rw [hf] at k; exact k
  | exc c d ρ1 => rw [hf] at k; exact k
  | ok b ρ1 =>
    rw [hf] at k
    exact fun Z1 H1 o1 w1 => k Z1 H1 o1 w1
theorem jw_and1 (ha : JT X C W a u) : JW X C W (.BoolOp .And [a] pos) u := pw_and1 ha
theorem jw_or1 (ha : JT X C W a u) : JW X C W (.BoolOp .Or [a] pos) u := pw_or1 ha
theorem tT_and {σ : St} {H : Hp} {Q : Bool → Hp → Prop} (k : tT C W (tAn u w) σ H Q) : tAnd (tT C W u) (tT C W w) σ H Q := by
  obtain ⟨Zb, Z, o, ρ, T, w', k⟩ := k
  refine ⟨Zb, Z, o, ρ, T, w', ?_⟩
  unfold tAn at k
  cases hf : u ρ with
  | stuck => rw [hf] at k; exact k
  | exc c d ρ1 => rw [hf] at k; exact k
  | ok b ρ1 =>
    rw [hf] at k
    simp only [Res.bind_ok] at k
    intro Z1 H1 o1 w1
    cases b with
    | true => exact ⟨_, Z1, o1, ρ1, T, w1, k⟩
    | false => exact k Z1 H1 o1 w1
theorem tT_or {σ : St} {H : Hp} {Q : Bool → Hp → Prop} (k : tT C W (tOo u w) σ H Q) : tOr (tT C W u) (tT C W w) σ H Q := by
  obtain ⟨Zb, Z, o, ρ, T, w', k⟩ := k
  refine ⟨Zb, Z, o, ρ, T, w', ?_⟩
  unfold tOo at k
  cases hf : u ρ with
  | stuck => rw [hf] at k; exact k
  | exc c d ρ1 => rw [hf] at k; exact k
  | ok b ρ1 =>
    rw [hf] at k
    simp only [Res.bind_ok] at k
    intro Z1 H1 o1 w1
    cases b with
    | true => exact k Z1 H1 o1 w1
    | false => exact ⟨_, Z1, o1, ρ1, T, w1, k⟩
theorem jw_and (ha : JT X C W a u) (hb : JW X C W (.BoolOp .And (b :: rest) pos) w) : JW X C W (.BoolOp .And (a :: b :: rest) pos) (tAn u w) := PW.imp (pw_and ha hb) fun _ _ _ => tT_and
theorem jw_or (ha : JT X C W a u) (hb : JW X C W (.BoolOp .Or (b :: rest) pos) w) : JW X C W (.BoolOp .Or (a :: b :: rest) pos) (tOo u w) := PW.imp (pw_or ha hb) fun _ _ _ => tT_or

/-! ### tests as values -/
def jOfT (u : TF) : JF := fun ρ => (u ρ).bind fun b ρ1 => .ok (.tmp (.v (.bool b))) ρ1
def jAn (f g : JF) : JF := fun ρ => (tBo f ρ).bind fun b ρ1 => match b with
  | true => g ρ1
  | false => .ok (.tmp (.v (.bool false))) ρ1
def jOo (f g : JF) : JF := fun ρ => (tBo f ρ).bind fun b ρ1 => match b with
  | true => .ok (.tmp (.v (.bool true))) ρ1
  | false => g ρ1
def jNo (f : JF) : JF := fun ρ => (tBo f ρ).bind fun b ρ1 => .ok (.tmp (.v (.bool (!b)))) ρ1
theorem kJ_bool {σ : St} {T : List (V × M)} {b : Bool} {ρ : Env} {Q : VK} {Z H : Hp} {o : Addr → Option Nat} (w : Own C Z H o σ ρ T) (k : kJ C W σ T (.ok (.tmp (.v (.bool b))) ρ) Q) : Q (.bl b) H := by
  obtain ⟨o', w'⟩ := w.push (v := .bl b) (m := .v (.bool b)) Sub.rfl' Sub.rfl' w.zh (fun a u e => .inl e) (.bl b)
  exact k Z H o' _ _ w' rfl
theorem tBo_ok {σ : St} {H : Hp} {Q : VK} {k : Bool → Env → Res Src} (h : ∃ Zb Z o ρ T, Own (C.at Zb) Z H o σ ρ T ∧ kJ (C.at Zb) W σ T ((tBo f ρ).bind k) Q) :
    tJ C W f σ H fun x H' => ∃ c, x = .bl c ∧ ∃ Zb Z o ρ T, Own (C.at Zb) Z H' o σ ρ T ∧ kJ (C.at Zb) W σ T (k c ρ) Q := by
  obtain ⟨Zb, Z, o, ρ, T, w, h⟩ := h
  refine tT_bo ⟨Zb, Z, o, ρ, T, w, ?_⟩
  cases hf : tBo f ρ with
  | stuck => rw [hf] at h; exact h
  | exc c d ρ1 => rw [hf] at h; exact h
  | ok b ρ1 =>
    rw [hf] at h
    exact fun Z1 H1 o1 w1 => ⟨_, Z1, o1, ρ1, T, w1, h⟩
theorem je_one {op : BoolOp} (ha : JE X C W a f) : JE X C W (.BoolOp op [a] pos) f := pe_one ha
theorem je_and (ha : JE X C W a f) (hb : JE X C W (.BoolOp .And (b :: rest) pos) g) : JE X C W (.BoolOp .And (a :: b :: rest) pos) (jAn f g) := by
  refine PE.imp (pe_and ha hb) fun σ H Q k => ?_
  have q := tBo_ok (f := f) (k := fun b ρ1 => match b with | true => g ρ1 | false => .ok (.tmp (.v (.bool false))) ρ1) k
  obtain ⟨Zb, Z, o, ρ, T, w, q⟩ := q
  refine ⟨Zb, Z, o, ρ, T, w, ?_⟩
  cases hf : f ρ with
  | stuck => rw [hf] at q; exact q
  | exc c d ρ1 => rw [hf] at q; exact q
  | ok s ρ1 =>
    rw [hf] at q
    intro Z1 H1 o1 v T1 w1 a1
    obtain ⟨c, rfl, Zc, Z2, o2, ρ2, T2, w2, q⟩ := q Z1 H1 o1 v T1 w1 a1
    refine ⟨c, rfl, ?_⟩
    cases c with
    | true => exact ⟨_, Z2, o2, ρ2, T2, w2, q⟩
    | false => exact kJ_bool w2 q
theorem je_or (ha : JE X C W a f) (hb : JE X C W (.BoolOp .Or (b :: rest) pos) g) : JE X C W (.BoolOp .Or (a :: b :: rest) pos) (jOo f g) := by
  refine PE.imp (pe_or ha hb) fun σ H Q k => ?_
  have q := tBo_ok (f := f) (k := fun b ρ1 => match b with | true => .ok (.tmp (.v (.bool true))) ρ1 | false => g ρ1) k
  obtain ⟨Zb, Z, o, ρ, T, w, q⟩ := q
  refine ⟨Zb, Z, o, ρ, T, w, ?_⟩
  cases hf : f ρ with
  | stuck => rw [hf] at q; exact q
  | exc c d ρ1 => rw [hf] at q; exact q
  | ok s ρ1 =>
    rw [hf] at q
    intro Z1 H1 o1 v T1 w1 a1
    obtain ⟨c, rfl, Zc, Z2, o2, ρ2, T2, w2, q⟩ := q Z1 H1 o1 v T1 w1 a1
    refine ⟨c, rfl, ?_⟩
    cases c with
    | true => exact kJ_bool w2 q
    | false => exact ⟨_, Z2, o2, ρ2, T2, w2, q⟩
theorem je_not (ha : JE X C W a f) : JE X C W (.UnaryOp .Not a pos) (jNo f) := by
  refine PE.imp (pe_not ha) fun σ H Q k => ?_
  have q := tBo_ok (f := f) (k := fun b ρ1 => .ok (.tmp (.v (.bool (!b)))) ρ1) k
  obtain ⟨Zb, Z, o, ρ, T, w, q⟩ := q
  refine ⟨Zb, Z, o, ρ, T, w, ?_⟩
  cases hf : f ρ with
  | stuck => rw [hf] at q; exact q
  | exc c d ρ1 => rw [hf] at q; exact q
  | ok s ρ1 =>
    rw [hf] at q
    intro Z1 H1 o1 v T1 w1 a1
    obtain ⟨c, rfl, Zc, Z2, o2, ρ2, T2, w2, q⟩ := q Z1 H1 o1 v T1 w1 a1
    exact ⟨c, rfl, kJ_bool w2 q⟩
def jIf (u : TF) (f g : JF) : JF := fun ρ => (u ρ).bind fun b ρ1 => match b with
  | true => f ρ1
  | false => g ρ1
theorem je_if (hc : JT X C W c u) (ha : JE X C W a f) (hb : JE X C W b g) : JE X C W (.IfExp c a b pos) (jIf u f g) := by
  refine PE.imp (pe_ifExp hc ha hb) fun σ H Q k => ?_
  obtain ⟨Zb, Z, o, ρ, T, w', k⟩ := k
  refine ⟨Zb, Z, o, ρ, T, w', ?_⟩
  unfold jIf at k
  cases hf : u ρ with
  | stuck => rw [hf] at k; exact k
  | exc c d ρ1 => rw [hf] at k; exact k
  | ok b ρ1 =>
    rw [hf] at k
    simp only [Res.bind_ok] at k
    intro Z1 H1 o1 w1
    cases b with
    | true => exact ⟨_, Z1, o1, ρ1, T, w1, k⟩
    | false => exact ⟨_, Z1, o1, ρ1, T, w1, k⟩
/-- a < b < c -/
def jCh (F F' : M → M → Option M) (f g h : JF) : JF := fun ρ => (f ρ).bind fun s ρ1 => (g ρ1).bind fun s' ρ2 =>
  (boolR (isBool (match s.get ρ2, s'.get ρ2 with | some a, some b => F a b | _, _ => none)) ρ2).bind fun b ρ3 => match b with
    | true => (h ρ3).bind fun s'' ρ4 => app2 F' (s'.get ρ4) (s''.get ρ4) ρ4
    | false => .ok (.tmp (.v (.bool false))) ρ3
theorem tJ_ch {r r' : R2} {F F' : M → M → Option M} (hr : OpS C.cls r F) (hr' : OpS C.cls r' F') {σ : St} {H : Hp} {Q : VK} (k : tJ C W (jCh F F' f g h) σ H Q) :
    tChain r r' (tJ C W f) (tJ C W g) (tJ C W h) σ H Q := by
  obtain ⟨Zb, Z, o, ρ, T, w, k⟩ := k
  refine ⟨Zb, Z, o, ρ, T, w, ?_⟩
  unfold jCh at k
  cases hf : f ρ with
  | stuck => rw [hf] at k; exact k
  | exc c d ρ1 => rw [hf] at k; exact k
  | ok s ρ1 =>
    rw [hf] at k
    simp only [Res.bind_ok] at k
    intro Z1 H1 o1 v T1 w1 a1
    refine ⟨_, Z1, o1, ρ1, T1, w1, ?_⟩
    obtain ⟨R1, e1⟩ := a1.pre
    cases hg : g ρ1 with
    | stuck => rw [hg] at k; exact k
    | exc c d ρ2 =>
      rw [hg] at k
      exact fun Z2 H2 o2 cl dx w2 x2 => k Z2 H2 o2 cl dx (w2.cut e1) x2
    | ok s' ρ2 =>
      rw [hg] at k
      simp only [Res.bind_ok] at k
      intro Z2 H2 o2 v' T2 w2 a2
      obtain ⟨R2, e2⟩ := a2.pre
      cases g1 : s.get ρ2 with
      | none => rw [g1] at k; exact k.elim
      | some x =>
        cases g2 : s'.get ρ2 with
        | none => rw [g1, g2] at k; exact k.elim
        | some y =>
          rw [g1, g2] at k
          simp only at k
          obtain ⟨P, r1⟩ := a1.rm w2 e2 g1
          obtain ⟨P', r2⟩ := a2.rm w2 (List.append_nil _).symm g2
          cases hb : isBool (F x y) with
          | none => rw [hb] at k; exact k.elim
          | some b =>
            rw [hb] at k
            have e3 : F x y = some (.v (.bool b)) := by
              unfold isBool at hb
              split at hb
              · rename_i e4
                rw [e4]
                cases hb
                rfl
              · cases hb
            refine hr Z2 H2 v v' x y _ P P' _ w2.zh r1 r2 e3 (w2.give fun z Z3 H3 o3 w3 => ?_)
            have ez : z = .bl b := dp_bool w3.last
            subst ez
            refine ⟨b, rfl, ?_⟩
            have w5 : Own (C.at Zb) Z3 H3 o3 σ ρ2 T2 := w3.cut rfl
            simp only [boolR, Res.bind_ok] at k
            cases b with
            | false => exact kJ_bool ((w5.cut e2).cut e1) k
            | true =>
              refine ⟨_, Z3, o3, ρ2, T2, w5, ?_⟩
              simp only at k
              cases hh : h ρ2 with
              | stuck => rw [hh] at k; exact k
              | exc c d ρ4 =>
                rw [hh] at k
                exact fun Z4 H4 o4 cl dx w4 x4 => k Z4 H4 o4 cl dx ((w4.cut e2).cut e1) x4
              | ok s'' ρ4 =>
                rw [hh] at k
                simp only [Res.bind_ok] at k
                intro Z4 H4 o4 v'' T4 w4 a4
                obtain ⟨R4, e4⟩ := a4.pre
                cases g3 : s'.get ρ4 with
                | none => rw [g3] at k; exact k.elim
                | some y' =>
                  cases g4 : s''.get ρ4 with
                  | none => rw [g3, g4] at k; exact k.elim
                  | some z' =>
                    rw [g3, g4] at k
                    obtain ⟨P3, r3⟩ := a2.rm w4 e4 g3
                    obtain ⟨P4, r4⟩ := a4.rm w4 (List.append_nil _).symm g4
                    obtain ⟨m, e5, k⟩ := kJ_res (((w4.cut e4).cut e2).cut e1) k
                    exact hr' Z4 H4 v' v'' y' z' m P3 P4 Q w4.zh r3 r4 e5 k
theorem je_ch {op op' : CmpOp} {r r' : R2} {F F' : M → M → Option M} (ho : OpR X (compareOp op) r) (ho' : OpR X (compareOp op') r') (hr : OpS C.cls r F) (hr' : OpS C.cls r' F') (ha : JE X C W a f) (hb : JE X C W b g) (hc : JE X C W c h)
    (hm : lastMarks [op, op'] [b, c] = false := by with_unfolding_all rfl) : JE X C W (.Compare a [op, op'] [b, c] pos) (jCh F F' f g h) := PE.imp (pe_chain ho ho' ha hb hc hm) fun _ _ _ => tJ_ch hr hr'
theorem jt_ch {op op' : CmpOp} {r r' : R2} {F F' : M → M → Option M} (ho : OpR X (compareOp op) r) (ho' : OpR X (compareOp op') r') (hr : OpS C.cls r F) (hr' : OpS C.cls r' F') (ha : JE X C W a f) (hb : JE X C W b g) (hc : JE X C W c h)
    (hm : lastMarks [op, op'] [b, c] = false := by with_unfolding_all rfl) : JT X C W (.Compare a [op, op'] [b, c] pos) (tBo (jCh F F' f g h)) := PT.imp (pt_chain ho ho' ha hb hc hm) fun _ _ _ k => tJ_ch hr hr' (tT_bo k)
end

/-! ### statements -/
section
variable {X : Cx} {C : Base} {W : WX} {e : Expr} {c : Expr} {st : Stmt} {sts sts' : List Stmt} {f : JF} {u : TF} {g h : SF} {pos : Pos}
def sNx : SF := fun ρ => .nx ρ
def sSeq (g h : SF) : SF := fun ρ => match g ρ with
  | .nx ρ1 => h ρ1
  | r => r
def sBk : SF := fun ρ => .bk ρ
def sCt : SF := fun ρ => .ct ρ
def sEx (f : JF) : SF := fun ρ => match f ρ with
  | .ok _ ρ1 => .nx ρ1
  | .exc c d ρ1 => .exc c d ρ1
  | .stuck => .stuck
/-- only a temporary is handed back -/
def sRt (f : JF) : SF := fun ρ => match f ρ with
  | .ok (.tmp m) ρ1 => .rt m ρ1
  | .ok (.slot _) _ => .stuck
  | .exc c d ρ1 => .exc c d ρ1
  | .stuck => .stuck
def sRtN : SF := fun ρ => .rt (.v .none) ρ
def sIf (u : TF) (g h : SF) : SF := fun ρ => match u ρ with
  | .ok true ρ1 => g ρ1
  | .ok false ρ1 => h ρ1
  | .exc c d ρ1 => .exc c d ρ1
  | .stuck => .stuck
def sSet (i : Nat) (f : JF) : SF := fun ρ => match f ρ with
  | .ok (.tmp m) ρ1 => .nx (ρ1.set i (some m))
  | .ok (.slot _) _ => .stuck
  | .exc c d ρ1 => .exc c d ρ1
  | .stuck => .stuck
theorem jss_nil : JSs X C W [] sNx := by
  refine PSs.imp pss_nil fun D σ H k => ?_
  obtain ⟨Zb, Z, o, ρ, w, k⟩ := k
  exact k Z H o σ w
theorem js_pass : JS X C W (.Pass pos) sNx := by
  refine PS.imp ps_pass fun D σ H k => ?_
  obtain ⟨Zb, Z, o, ρ, w, k⟩ := k
  exact k Z H o σ w
theorem js_break : JS X C W (.Break pos) sBk := by
  refine PS.imp ps_break fun D σ H k => ?_
  obtain ⟨Zb, Z, o, ρ, w, k⟩ := k
  exact k Z H o σ w
theorem js_cont : JS X C W (.Continue pos) sCt := by
  refine PS.imp ps_continue fun D σ H k => ?_
  obtain ⟨Zb, Z, o, ρ, w, k⟩ := k
  exact k Z H o σ w
theorem tS_seq {D : Ends} {σ : St} {H : Hp} (k : tS C W (sSeq g h) D σ H) : tSeq (tS C W g) (tS C W h) D σ H := by
  obtain ⟨Zb, Z, o, ρ, w, k⟩ := k
  refine ⟨Zb, Z, o, ρ, w, ?_⟩
  unfold sSeq at k
  cases hg : g ρ with
  | nx ρ1 =>
    rw [hg] at k
    exact fun Z1 H1 o1 σ1 w1 => ⟨_, Z1, o1, ρ1, w1, k⟩
  | rt m ρ1 => rw [hg] at k; exact k
  | bk ρ1 => rw [hg] at k; exact k
  | ct ρ1 => rw [hg] at k; exact k
  | exc c d ρ1 => rw [hg] at k; exact k
  | stuck => rw [hg] at k; exact k
theorem jss_cons (h1 : JS X C W st g) (h2 : JSs X C W sts h) : JSs X C W (st :: sts) (sSeq g h) := PSs.imp (pss_cons h1 h2) fun _ _ _ => tS_seq
theorem jss_one (h1 : JS X C W st g) : JSs X C W [st] g := pss_one h1
theorem js_ex (ha : JE X C W e f) (hs : swapsWith e none pos.line X.env = pure false := by rfl) : JS X C W (.Expr e pos) (sEx f) := by
  refine PS.imp (ps_expr ha hs) fun D σ H k => ?_
  obtain ⟨Zb, Z, o, ρ, w, k⟩ := k
  refine ⟨Zb, Z, o, ρ, [], w, ?_⟩
  unfold sEx at k
  cases hf : f ρ with
  | stuck => rw [hf] at k; exact k
  | exc c d ρ1 => rw [hf] at k; exact fun Z1 H1 o1 cl dx w1 x1 => k Z1 H1 o1 σ cl dx w1 x1
  | ok s ρ1 =>
    rw [hf] at k
    intro Z1 H1 o1 v T1 w1 a1
    obtain ⟨R, e1⟩ := a1.pre
    exact k Z1 H1 o1 σ (w1.cut e1)
theorem js_rt (ha : JE X C W e f) : JS X C W (.Return (some e) pos) (sRt f) := by
  refine PS.imp (ps_ret ha) fun D σ H k => ?_
  obtain ⟨Zb, Z, o, ρ, w, k⟩ := k
  refine ⟨Zb, Z, o, ρ, [], w, ?_⟩
  unfold sRt at k
  cases hf : f ρ with
  | stuck => rw [hf] at k; exact k
  | exc c d ρ1 => rw [hf] at k; exact fun Z1 H1 o1 cl dx w1 x1 => k Z1 H1 o1 σ cl dx w1 x1
  | ok s ρ1 =>
    rw [hf] at k
    intro Z1 H1 o1 v T1 w1 a1
    cases s with
    | slot i => exact k.elim
    | tmp m =>
      obtain rfl : T1 = [(v, m)] := a1
      exact k Z1 H1 o1 σ v w1
theorem js_rtN : JS X C W (.Return none pos) sRtN := by
  refine PS.imp ps_retN fun D σ H k => ?_
  obtain ⟨Zb, Z, o, ρ, w, k⟩ := k
  obtain ⟨o', w'⟩ := w.push (v := .non) (m := .v .none) Sub.rfl' Sub.rfl' w.zh (fun a u e => .inl e) .non
  exact k Z H o' σ .non w'
theorem tS_if {D : Ends} {σ : St} {H : Hp} (k : tS C W (sIf u g h) D σ H) : tIfS (tT C W u) (tS C W g) (tS C W h) D σ H := by
  obtain ⟨Zb, Z, o, ρ, w, k⟩ := k
  refine ⟨Zb, Z, o, ρ, [], w, ?_⟩
  unfold sIf at k
  cases hu : u ρ with
  | stuck => rw [hu] at k; exact k
  | exc c d ρ1 => rw [hu] at k; exact fun Z1 H1 o1 cl dx w1 x1 => k Z1 H1 o1 σ cl dx w1 x1
  | ok b ρ1 =>
    rw [hu] at k
    intro Z1 H1 o1 w1
    cases b with
    | true => exact ⟨_, Z1, o1, ρ1, w1, k⟩
    | false => exact ⟨_, Z1, o1, ρ1, w1, k⟩
theorem js_if {ss ss' : List Stmt} (hc : JT X C W c u) (ha : JSs X C W ss g) (hb : JSs X C W ss' h) : JS X C W (.If c ss ss' pos) (sIf u g h) := PS.imp (ps_if hc ha hb) fun _ _ _ => tS_if
theorem blt_lt {i n : Nat} (h : Nat.blt i n = true) : i < n := by simpa using h
theorem notin_of {i : Nat} {L : List Nat} (h : L.elem i = false) : i ∉ L := fun z => by
  rw [List.elem_eq_true_of_mem z] at h
  cases h
theorem tS_set {i : Nat} (hi : Nat.blt i C.n = true) (hl : C.L.elem i = false) {D : Ends} {σ : St} {H : Hp} (k : tS C W (sSet i f) D σ H) : tAsg (tJ C W f) (gName i) D σ H := by
  obtain ⟨Zb, Z, o, ρ, w, k⟩ := k
  refine ⟨Zb, Z, o, ρ, [], w, ?_⟩
  unfold sSet at k
  cases hf : f ρ with
  | stuck => rw [hf] at k; exact k
  | exc c d ρ1 => rw [hf] at k; exact fun Z1 H1 o1 cl dx w1 x1 => k Z1 H1 o1 σ cl dx w1 x1
  | ok s ρ1 =>
    rw [hf] at k
    intro Z1 H1 o1 v T1 w1 a1
    cases s with
    | slot i => exact k.elim
    | tmp m =>
      obtain rfl : T1 = [] ++ [(v, m)] := a1
      obtain ⟨o2, w2⟩ := w1.store (blt_lt hi) (notin_of hl)
      exact k Z1 H1 o2 _ w2
theorem js_set {i : Nat} {x : Str} {pos' : Pos} (hN : X.N.Nodup) (hx : X.N[i]? = some x) (hv : Loc X.env.scope x) (ha : JE X C W e f) (hi : Nat.blt i C.n = true := by rfl) (hl : C.L.elem i = false := by rfl)
    (hs : swapsWith e (some (.Name x pos')) pos.line X.env = pure false := by rfl) (hf : X.fn x = true ∨ X.env.scope.names.lookup x = some .local := by first | exact .inl rfl | exact .inr rfl | assumption) :
    JS X C W (.Assign [.Name x pos'] e pos) (sSet i f) := PS.imp (ps_set hN hx hv ha hs hf) fun _ _ _ => tS_set hi hl
end
end FW
end

section
set_option Elab.async false
set_option linter.all false
set_option maxRecDepth 100000
set_option autoImplicit false
/-! FW4: what is walked, targets, for, while, comprehensions. -/
namespace FW
open PySem PySem.Spec PyProof.Rows L2

/-! ### what is walked -/
abbrev IF := Env → Res (List D)
structure Walks (cls : Cls) (Z : Hp) (J : It) (ds : List D) : Prop where
  go : ∀ i H, Sub Z H → i < ds.length → J.go i H
  stop : ∀ i H, Sub Z H → ds.length ≤ i → J.stop i H
  yld : ∀ i H x H' Z1 d, Sub Z Z1 → Sub Z1 H → ds[i]? = some d → J.yld i H x H' → ∃ Z2, Sub Z1 Z2 ∧ Sub H H' ∧ Sub Z2 H' ∧ (∀ a u, Z2 a = some u → Z1 a = some u ∨ (H a = none ∧ ∀ ps, u ≠ .tbl ps)) ∧ RD cls Z2 x d
def kI (C : Base) (W : WX) (σ : St) (T : List (V × M)) (r : Res (List D)) (R : It → Hp → Prop) : Prop := match r with
  | .ok ds ρ => ∀ Z H o J, Own C Z H o σ ρ T → Walks C.cls Z J ds → R J H
  | .exc c d ρ => ∀ Z H o cl dx, Own C Z H o σ ρ T → Exc C.cls Z H c d cl dx → W (.ref cl) (some dx) σ H
  | .stuck => False
def tI (C : Base) (W : WX) (F : IF) : TI := fun σ H R => ∃ Zb Z o ρ T, Own (C.at Zb) Z H o σ ρ T ∧ kI (C.at Zb) W σ T (F ρ) R
abbrev JI (X : Cx) (C : Base) (W : WX) (tg iter : Expr) (F : IF) : Prop := PI X tg iter (tI C W F)
theorem PI.imp {X : Cx} {tg iter : Expr} {t t' : TI} (h : PI X tg iter t) (i : ∀ σ H Q, t' σ H Q → t σ H Q) : PI X tg iter t' := ⟨fun pins s σ H R I q => h.run pins s σ H R I (i σ H R q)⟩

theorem walks_list {K : PySem.W.Frag} {cls : Cls} {Z : Hp} {a : Addr} {ds : List D} (r : RD cls Z (.ref a) (.list ds)) : Walks cls Z (Itl K a) ds := by
  cases r with
  | lst h1 h2 =>
    refine ⟨fun i H hs hi => ?_, fun i H hs hi => ⟨_, .inl (.inl (hs _ _ h1)), by rw [h2.length]; exact hi⟩, fun i H x H' Z1 d hz hs e y => ?_⟩
    · obtain ⟨v, h3, _⟩ := h2.get (List.getElem?_eq_getElem hi)
      exact ⟨_, v, .inl (.inl (hs _ _ h1)), h3⟩
    · obtain ⟨rfl, y⟩ := y
      obtain ⟨v, h3, h4⟩ := h2.get e
      have := y _ (.inl (.inl (hs _ _ (hz _ _ h1))))
      rw [h3] at this
      cases this
      exact ⟨Z1, Sub.rfl', Sub.rfl', hs, fun a u e => .inl e, hz.dp _ _ h4⟩
theorem walks_tup {K : PySem.W.Frag} {cls : Cls} {Z : Hp} {a : Addr} {ds : List D} (r : RD cls Z (.ref a) (.tuple ds)) : Walks cls Z (Itt K a) ds := by
  cases r with
  | tup h1 h2 =>
    refine ⟨fun i H hs hi => ?_, fun i H hs hi => ⟨_, .inl (.inl (hs _ _ h1)), by rw [h2.length]; exact hi⟩, fun i H x H' Z1 d hz hs e y => ?_⟩
    · obtain ⟨v, h3, _⟩ := h2.get (List.getElem?_eq_getElem hi)
      exact ⟨_, v, .inl (.inl (hs _ _ h1)), h3⟩
    · obtain ⟨rfl, y⟩ := y
      obtain ⟨v, h3, h4⟩ := h2.get e
      have := y _ (.inl (.inl (hs _ _ (hz _ _ h1))))
      rw [h3] at this
      cases this
      exact ⟨Z1, Sub.rfl', Sub.rfl', hs, fun a u e => .inl e, hz.dp _ _ h4⟩
def intsFrom (lo : Int) (n : Nat) : List D := (List.range n).map fun (k : Nat) => PyData.int (lo + (k : Int))
theorem walks_range {cls : Cls} {Z : Hp} {lo : Int} {n : Nat} : Walks cls Z (Itr lo n) (intsFrom lo n) := by
  refine ⟨fun i H hs hi => (by simpa [intsFrom] using hi : i < n), fun i H hs hi => (by simpa [intsFrom] using hi : n ≤ i), fun i H x H' Z1 d hz hs e y => ?_⟩
  obtain ⟨rfl, rfl⟩ := y
  have e2 : d = .int (lo + (i : Int)) := by
    unfold intsFrom at e
    rw [List.getElem?_map] at e
    cases h : (List.range n)[i]? with
    | none => rw [h] at e; cases e
    | some k =>
      rw [h] at e
      have := List.getElem?_range (n := n) (i := i) (by
        have := (List.getElem?_eq_some_iff.mp h).1
        simpa using this)
      rw [this] at h
      cases h
      cases e
      rfl
  subst e2
  exact ⟨Z1, Sub.rfl', Sub.rfl', hs, fun a u e => .inl e, .int _⟩

section
variable {X : Cx} {tg l : Expr} {C : Base} {W : WX}
def iSq (K : PySem.W.Frag) (tl : TE) : TI := fun σ H R => tl σ H fun x H1 => ∃ a, x = .ref a ∧ (((∃ xs, SqL K H1 a xs) ∧ R (Itl K a) H1) ∨ ((∃ xs, SqT K H1 a xs) ∧ R (Itt K a) H1))
theorem pi_seq {tl : TE} (hl : PE X l tl) : PI X tg l (iSq X.K tl) := by
  refine ⟨fun pins s σ H R I h => ?_⟩
  refine thn (hl.run pins s σ H _ I h) fun v s1 ⟨x, H1, I1, r1, q1⟩ => ?_
  obtain ⟨a, e, q⟩ := q1
  subst e
  cases r1
  have fp : ∀ b ∈ [s1.heap.objs.size], FpOk X pins H1 b := fun b hb => by
    have e : b = s1.heap.objs.size := by simpa using hb
    subst e
    exact I1.fpOk (Nat.le_refl _) (I1.hok.fresh (Nat.le_refl _))
  rcases q with ⟨⟨xs, hq⟩, q⟩ | ⟨⟨xs, hq⟩, q⟩
  · obtain ⟨its, rv, p, hz⟩ := I1.list hq
    exact wpAny_pyIter_list p.isList ⟨s1.heap.objs.size, [s1.heap.objs.size], _, _, H1, rfl, I1.kept (t' := s1.toks) fun b o e => Heap.get?_push_of_some _ e, turn_list a _, ⟨_, Heap.get?_push_size _ rfl, rfl, rfl⟩, fp, q⟩
  · obtain ⟨its, rv, p, hz⟩ := I1.tuple hq
    exact wpAny_pyIter_tuple (show s1.heap.IsTuple a its.toArray from p) ⟨s1.heap.objs.size, [s1.heap.objs.size], _, _, H1, rfl, I1.kept (t' := s1.toks) fun b o e => Heap.get?_push_of_some _ e, turn_tuple a _, ⟨_, Heap.get?_push_size _ rfl, rfl, rfl⟩, fp, q⟩
/-- a list or a tuple, frozen -/
def iSeq (f : JF) : IF := fun ρ => (jFrz f ρ).bind fun s ρ1 => match s with
  | .tmp (.v (.list ds)) => .ok ds ρ1
  | .tmp (.v (.tuple ds)) => .ok ds ρ1
  | _ => .stuck
theorem RD.listref {cls : Cls} {Z : Hp} {v : V} {ds : List D} (h : RD cls Z v (.list ds)) : ∃ a, v = .ref a := by
  cases h with
  | lst _ _ => exact ⟨_, rfl⟩
theorem RD.tupref {cls : Cls} {Z : Hp} {v : V} {ds : List D} (h : RD cls Z v (.tuple ds)) : ∃ a, v = .ref a := by
  cases h with
  | tup _ _ => exact ⟨_, rfl⟩
theorem RD.sql {K : PySem.W.Frag} {cls : Cls} {Z H : Hp} {a : Addr} {ds : List D} (hs : Sub Z H) (h : RD cls Z (.ref a) (.list ds)) : ∃ xs, SqL K H a xs ∧ RDs cls Z xs ds := by
  cases h with
  | lst h1 h2 => exact ⟨_, .inl (.inl (hs _ _ h1)), h2⟩
theorem RD.sqt {K : PySem.W.Frag} {cls : Cls} {Z H : Hp} {a : Addr} {ds : List D} (hs : Sub Z H) (h : RD cls Z (.ref a) (.tuple ds)) : ∃ xs, SqT K H a xs ∧ RDs cls Z xs ds := by
  cases h with
  | tup h1 h2 => exact ⟨_, .inl (.inl (hs _ _ h1)), h2⟩
theorem ji_seq {f : JF} (hl : JE X C W l f) : JI X C W tg l (iSeq f) := by
  refine PI.imp (pi_seq (je_frz hl)) fun σ H R k => ?_
  obtain ⟨Zb, Z, o, ρ, T, w, k⟩ := k
  refine ⟨Zb, Z, o, ρ, T, w, ?_⟩
  unfold iSeq at k
  cases hf : jFrz f ρ with
  | stuck => rw [hf] at k; exact k
  | exc c d ρ1 => rw [hf] at k; exact k
  | ok s ρ1 =>
    rw [hf] at k
    simp only [Res.bind_ok] at k
    intro Z1 H1 o1 v T1 w1 a1
    cases s with
    | slot i => exact k.elim
    | tmp m =>
      obtain rfl : T1 = T ++ [(v, m)] := a1
      cases m with
      | v d =>
        have r : RD C.cls Z1 v d := w1.last
        cases d with
        | list ds =>
          obtain ⟨a, rfl⟩ := r.listref
          obtain ⟨xs, hx, _⟩ := r.sql (K := X.K) w1.zh
          exact ⟨a, rfl, .inl ⟨⟨xs, hx⟩, k Z1 H1 o1 _ w1.drop (walks_list r)⟩⟩
        | tuple ds =>
          obtain ⟨a, rfl⟩ := r.tupref
          obtain ⟨xs, hx, _⟩ := r.sqt (K := X.K) w1.zh
          exact ⟨a, rfl, .inr ⟨⟨xs, hx⟩, k Z1 H1 o1 _ w1.drop (walks_tup r)⟩⟩
        | _ => exact k.elim
      | _ => exact k.elim
def inB (j : Int) : Bool := decide (-(2 ^ 62) ≤ j) && decide (j < 2 ^ 62)
theorem inB_of {j : Int} (h : inB j = true) : -(2 ^ 62) ≤ j ∧ j < 2 ^ 62 := by
  unfold inB at h
  rw [Bool.and_eq_true] at h
  exact ⟨of_decide_eq_true h.1, of_decide_eq_true h.2⟩
def rng1 : List M → Option (List D)
  | [.v (.int j)] => if inB j then some (intsFrom 0 j.toNat) else none
  | _ => none
def rng2 : List M → Option (List D)
  | [.v (.int i), .v (.int j)] => if inB i && inB j then some (intsFrom i (j - i).toNat) else none
  | _ => none
def dsR (o : Option (List D)) (ρ : Env) : Res (List D) := match o with
  | some ds => .ok ds ρ
  | none => .stuck
def iFrom (F : List M → Option (List D)) (g : AF) : IF := fun ρ => (g ρ).bind fun ss ρ1 => dsR ((gets ρ1 ss).bind F) ρ1
theorem RMs.one {cls : Cls} {Z H : Hp} {vs : List V} {m : M} (h : RMs cls Z H vs [m]) : ∃ v P, vs = [v] ∧ RM cls Z H P v m := by
  cases vs with
  | nil => cases (show [m] = [] from h)
  | cons v r =>
    obtain ⟨m', r', e, ⟨P, h1⟩, h2⟩ := h
    cases e
    cases r with
    | nil => exact ⟨v, P, rfl, h1⟩
    | cons v2 r2 =>
      obtain ⟨_, _, e, _⟩ := h2
      cases e
theorem RMs.two {cls : Cls} {Z H : Hp} {vs : List V} {m m' : M} (h : RMs cls Z H vs [m, m']) : ∃ v v' P P', vs = [v, v'] ∧ RM cls Z H P v m ∧ RM cls Z H P' v' m' := by
  cases vs with
  | nil => cases (show [m, m'] = [] from h)
  | cons v r =>
    obtain ⟨m2, r', e, ⟨P, h1⟩, h2⟩ := h
    cases e
    obtain ⟨v', P', rfl, h3⟩ := RMs.one h2
    exact ⟨v, v', P, P', rfl, h1, h3⟩
theorem rd_int {cls : Cls} {Z : Hp} {v : V} {i : Int} (h : RD cls Z v (.int i)) : v = .int i := by cases h; rfl
theorem rd_str {cls : Cls} {Z : Hp} {v : V} {i : Str} (h : RD cls Z v (.str i)) : v = .str i := by cases h; rfl
theorem rd_none {cls : Cls} {Z : Hp} {v : V} (h : RD cls Z v .none) : v = .non := by cases h; rfl
theorem tI_from {t : TI} {F : List M → Option (List D)} {g : AF} {Wk : List V → It → Hp → Prop} (ht : ∀ σ H R, tA C W g σ H (fun vs H1 => ∃ J, Wk vs J H1 ∧ R J H1) → t σ H R)
    (hF : ∀ Z H vs ms ds, Sub Z H → RMs C.cls Z H vs ms → F ms = some ds → ∃ J, Wk vs J H ∧ Walks C.cls Z J ds) {σ : St} {H : Hp} {R : It → Hp → Prop} (k : tI C W (iFrom F g) σ H R) : t σ H R := by
  refine ht σ H R ?_
  obtain ⟨Zb, Z, o, ρ, T, w, k⟩ := k
  refine ⟨Zb, Z, o, ρ, T, w, ?_⟩
  unfold iFrom at k
  cases hf : g ρ with
  | stuck => rw [hf] at k; exact k
  | exc c d ρ1 => rw [hf] at k; exact k
  | ok ss ρ1 =>
    rw [hf] at k
    simp only [Res.bind_ok] at k
    intro Z1 H1 o1 vs T1 w1 a1
    cases g1 : gets ρ1 ss with
    | none => rw [g1] at k; exact k.elim
    | some ms =>
      rw [g1] at k
      have r := a1.rms w1 (List.append_nil _).symm g1
      cases hd : F ms with
      | none => simp only [Option.bind_some, hd] at k; exact k.elim
      | some ds =>
        simp only [Option.bind_some, hd] at k
        obtain ⟨J, h1, h2⟩ := hF Z1 H1 vs ms ds w1.zh r hd
        obtain ⟨R1, e1⟩ := a1.pre
        exact ⟨J, h1, k Z1 H1 o1 J (w1.cut e1) h2⟩
theorem ji_range1 {a : Expr} {g : AF} {p pos : Pos} (hg : Gl X "range") (hm : X.mg "range" = none) (ha : JA X C W [a] g) (hs : starEach [a] X.env = [(false, eval a X.env)] := by rfl) : JI X C W tg (.Call (.Name "range" p) [a] [] pos) (iFrom rng1 g) := by
  refine PI.imp (pi_range1 hg hm ha hs) fun σ H R k => ?_
  refine tI_from (Wk := fun vs J _ => ∃ j : Int, vs = [.int j] ∧ -(2 ^ 62) ≤ j ∧ j < 2 ^ 62 ∧ J = Itr 0 j.toNat) (fun σ H R k => ?_) (fun Z H vs ms ds hs r h => ?_) k
  · obtain ⟨Zb, Z, o, ρ, T, w, k⟩ := k
    refine ⟨Zb, Z, o, ρ, T, w, ?_⟩
    cases hf : g ρ with
    | stuck => rw [hf] at k; exact k
    | exc c d ρ1 => rw [hf] at k; exact k
    | ok ss ρ1 =>
      rw [hf] at k
      intro Z1 H1 o1 vs T1 w1 a1
      obtain ⟨J, ⟨j, e, h1, h2, rfl⟩, h3⟩ := k Z1 H1 o1 vs T1 w1 a1
      exact ⟨j, e, h1, h2, h3⟩
  · unfold rng1 at h
    split at h
    · rename_i j
      obtain ⟨v, P, rfl, r1⟩ := r.one
      obtain rfl := rd_int r1
      split at h
      · rename_i hj
        cases h
        exact ⟨_, ⟨j, rfl, (inB_of hj).1, (inB_of hj).2, rfl⟩, walks_range⟩
      · cases h
    · cases h
theorem ji_range2 {a b : Expr} {g : AF} {p pos : Pos} (hg : Gl X "range") (hm : X.mg "range" = none) (ha : JA X C W [a, b] g) (hs : starEach [a, b] X.env = [(false, eval a X.env), (false, eval b X.env)] := by rfl) (hs2 : starEach [b] X.env = [(false, eval b X.env)] := by rfl) :
    JI X C W tg (.Call (.Name "range" p) [a, b] [] pos) (iFrom rng2 g) := by
  refine PI.imp (pi_range2 hg hm ha hs hs2) fun σ H R k => ?_
  refine tI_from (Wk := fun vs J _ => ∃ i j : Int, vs = [.int i, .int j] ∧ (-(2 ^ 62) ≤ i ∧ i < 2 ^ 62 ∧ -(2 ^ 62) ≤ j ∧ j < 2 ^ 62) ∧ J = Itr i (j - i).toNat) (fun σ H R k => ?_) (fun Z H vs ms ds hs r h => ?_) k
  · obtain ⟨Zb, Z, o, ρ, T, w, k⟩ := k
    refine ⟨Zb, Z, o, ρ, T, w, ?_⟩
    cases hf : g ρ with
    | stuck => rw [hf] at k; exact k
    | exc c d ρ1 => rw [hf] at k; exact k
    | ok ss ρ1 =>
      rw [hf] at k
      intro Z1 H1 o1 vs T1 w1 a1
      obtain ⟨J, ⟨i, j, e, h1, rfl⟩, h3⟩ := k Z1 H1 o1 vs T1 w1 a1
      exact ⟨i, j, e, h1, h3⟩
  · unfold rng2 at h
    split at h
    · rename_i i j
      obtain ⟨v, v', P, P', rfl, r1, r2⟩ := r.two
      obtain rfl := rd_int r1
      obtain rfl := rd_int r2
      split at h
      · rename_i hj
        cases h
        rw [Bool.and_eq_true] at hj
        exact ⟨_, ⟨i, j, rfl, ⟨(inB_of hj.1).1, (inB_of hj.1).2, (inB_of hj.2).1, (inB_of hj.2).2⟩, rfl⟩, walks_range⟩
      · cases h
    · cases h
end

/-! ### targets -/
abbrev GF := D → Env → Option Env
def gN (i : Nat) : GF := fun d ρ => some (ρ.set i (some (.v d)))
def gAll : List GF → List D → Env → Option Env
  | [], [], ρ => some ρ
  | G :: Gs, d :: ds, ρ => match G d ρ with
    | some ρ1 => gAll Gs ds ρ1
    | none => none
  | _, _, _ => none
def gT (Gs : List GF) : GF := fun d ρ => match d with
  | .tuple ds => gAll Gs ds ρ
  | _ => none
/-- what the stores may have changed of the slots -/
def Keeps (S : List Nat) (σ σ' : St) : Prop := ∀ l : List Nat, (∀ i ∈ S, i ∈ l) → wipe σ' l = wipe σ l
theorem Keeps.refl {S : List Nat} {σ : St} : Keeps S σ σ := fun _ _ => rfl
theorem Keeps.trans {S S' : List Nat} {σ σ1 σ2 : St} (h : Keeps S σ σ1) (h' : Keeps S' σ1 σ2) : Keeps (S ++ S') σ σ2 := fun l hl => by
  rw [h' l fun i hi => hl i (List.mem_append_right _ hi), h l fun i hi => hl i (List.mem_append_left _ hi)]
theorem wipe_get {σ : St} : ∀ {l : List Nat} {i : Nat}, (wipe σ l)[i]? = if i ∈ l then (σ[i]?).map (fun _ => none) else σ[i]?
  | [], i => by rw [if_neg (by simp)]; rfl
  | v :: l, i => by
    unfold wipe
    by_cases e : v = i
    · subst e
      rw [if_pos (List.mem_cons_self ..)]
      by_cases hl : v < σ.length
      · rw [List.getElem?_set_self (by rw [wipe_length]; exact hl), List.getElem?_eq_getElem hl]
        rfl
      · rw [List.getElem?_eq_none (by rw [List.length_set, wipe_length]; omega), List.getElem?_eq_none (by omega)]
        rfl
    · rw [List.getElem?_set_ne e, wipe_get]
      have : (i ∈ v :: l) ↔ i ∈ l := by
        rw [List.mem_cons]
        exact ⟨fun h => h.resolve_left (fun z => e z.symm), .inr⟩
      simp only [this]
theorem wipe_set {σ : St} {i : Nat} {x : Option V} {l : List Nat} (h : i ∈ l) : wipe (σ.set i x) l = wipe σ l := by
  refine List.ext_getElem? fun j => ?_
  rw [wipe_get, wipe_get]
  by_cases hj : j ∈ l
  · rw [if_pos hj, if_pos hj]
    by_cases e : i = j
    · subst e
      by_cases hl : i < σ.length
      · rw [List.getElem?_set_self hl, List.getElem?_eq_getElem hl]
        rfl
      · rw [List.getElem?_eq_none (by simpa using hl), List.getElem?_eq_none (by simpa using hl)]
    · rw [List.getElem?_set_ne e]
  · rw [if_neg hj, if_neg hj, List.getElem?_set_ne (fun e : i = j => hj (by rw [← e]; exact h))]
def kG (C : Base) (σ : St) (Z : Hp) (T : List (V × M)) (S : List Nat) (r : Option Env) (Q : St → Hp → Prop) : Prop := match r with
  | some ρ => ∀ Z' H o σ', Sub Z Z' → Keeps S σ σ' → Own C Z' H o σ' ρ T → Q σ' H
  | none => False
def tG (C : Base) (G : GF) (S : List Nat) : TG := fun v σ H Q => ∃ Zb Z o ρ T d, Own (C.at Zb) Z H o σ ρ T ∧ RD C.cls Z v d ∧ kG (C.at Zb) σ Z T S (G d ρ) Q
def tGs (C : Base) (Gs : List GF) (S : List Nat) : TGs := fun vs σ H Q => ∃ Zb Z o ρ T ds, Own (C.at Zb) Z H o σ ρ T ∧ RDs C.cls Z vs ds ∧ kG (C.at Zb) σ Z T S (gAll Gs ds ρ) Q
abbrev JG (X : Cx) (C : Base) (tg : Expr) (G : GF) (S : List Nat) : Prop := PG X tg (tG C G S)
abbrev JGs (X : Cx) (C : Base) (tgs : List Expr) (Gs : List GF) (S : List Nat) : Prop := PGs X tgs (tGs C Gs S)
section
variable {X : Cx} {C : Base} {e : Expr} {es : List Expr} {G : GF} {Gs : List GF} {S S' : List Nat} {pos : Pos}
theorem PG.imp {t t' : TG} (h : PG X e t) (i : ∀ v σ H Q, t' v σ H Q → t v σ H Q) : PG X e t' := ⟨fun pins s σ H v u Q I r q => h.run pins s σ H v u Q I r (i v σ H Q q)⟩
theorem PGs.imp {t t' : TGs} (h : PGs X es t) (i : ∀ v σ H Q, t' v σ H Q → t v σ H Q) : PGs X es t' := ⟨fun pins s σ H v u Q I r q => h.run pins s σ H v u Q I r (i v σ H Q q)⟩
theorem jg_name {i : Nat} {x : Str} (hN : X.N.Nodup) (hi : X.N[i]? = some x) (hx : Loc X.env.scope x) (hb : Nat.blt i C.n = true := by rfl) (hl : C.L.elem i = false := by rfl)
    (hf : X.fn x = true ∨ X.env.scope.names.lookup x = some .local := by first | exact .inl rfl | exact .inr rfl | assumption) : JG X C (.Name x pos) (gN i) [i] := by
  refine PG.imp (pg_name hN hi hx hf) fun v σ H Q k => ?_
  obtain ⟨Zb, Z, o, ρ, T, d, w, r, k⟩ := k
  obtain ⟨o1, w1⟩ := w.push (v := v) (m := .v d) Sub.rfl' Sub.rfl' w.zh (fun a u e => .inl e) r
  obtain ⟨o2, w2⟩ := w1.store (blt_lt hb) (notin_of hl)
  exact k Z H o2 _ Sub.rfl' (fun l hl => wipe_set (hl i (List.mem_singleton.mpr rfl))) w2
theorem jgs_nil : JGs X C [] [] [] := by
  refine PGs.imp pgs_nil fun v σ H Q k => ?_
  obtain ⟨Zb, Z, o, ρ, T, ds, w, r, k⟩ := k
  cases ds with
  | nil =>
    cases r
    exact ⟨rfl, k Z H o σ Sub.rfl' Keeps.refl w⟩
  | cons d ds => exact k.elim
theorem jgs_cons (h1 : JG X C e G S) (h2 : JGs X C es Gs S') (hs : (assignEach (e :: es) X.env).map (·.2) = assign e X.env :: (assignEach es X.env).map (·.2) := by rfl) : JGs X C (e :: es) (G :: Gs) (S ++ S') := by
  refine PGs.imp (pgs_cons h1 h2 hs) fun vs σ H Q k => ?_
  obtain ⟨Zb, Z, o, ρ, T, ds, w, r, k⟩ := k
  cases ds with
  | nil => exact k.elim
  | cons d ds =>
    cases r with
    | @cons v vs _ _ r1 r2 =>
      refine ⟨v, vs, rfl, Zb, Z, o, ρ, T, d, w, r1, ?_⟩
      unfold gAll at k
      cases hg : G d ρ with
      | none => rw [hg] at k; exact k.elim
      | some ρ1 =>
        rw [hg] at k
        intro Z1 H1 o1 σ1 hz kp w1
        refine ⟨_, Z1, o1, ρ1, T, ds, w1, hz.dps _ _ r2, ?_⟩
        cases hr : gAll Gs ds ρ1 with
        | none => simp only [hr] at k; exact k.elim
        | some ρ2 =>
          simp only [hr] at k
          intro Z2 H2 o2 σ2 hz2 kp2 w2
          exact k Z2 H2 o2 σ2 (hz.trans hz2) (kp.trans kp2) w2
theorem gAll_len : ∀ {Gs : List GF} {ds : List D} {ρ ρ' : Env}, gAll Gs ds ρ = some ρ' → ds.length = Gs.length
  | [], [], _, _, _ => rfl
  | [], _ :: _, _, _, h => by cases h
  | _ :: _, [], _, _, h => by cases h
  | G :: Gs, d :: ds, ρ, ρ', h => by
    unfold gAll at h
    split at h
    · simp [gAll_len h]
    · cases h
theorem jg_tup {k : Nat} (hc : X.calm = true) (h : JGs X C es Gs S) (hn : (assignEach es X.env).length = Gs.length := by rfl) (hst : (assignEach es X.env).findIdx? (·.1) = none := by rfl) : JG X C (.Tuple es k pos) (gT Gs) S := by
  refine PG.imp (pg_tup hc h hn hst) fun v σ H Q k => ?_
  obtain ⟨Zb, Z, o, ρ, T, d, w, r, k⟩ := k
  cases d with
  | tuple ds =>
    cases r with
    | @tup a xs _ h1 h2 =>
      refine ⟨a, xs, rfl, .inl (.inl (w.zh _ _ h1)), ?_, Zb, Z, o, ρ, T, ds, w, h2, k⟩
      cases hg : gAll Gs ds ρ with
      | none => simp only [gT, hg] at k; exact k.elim
      | some ρ' => rw [h2.length]; exact gAll_len hg
  | _ => exact k.elim
end

/-! ### for -/
def forL (G : GF) (g : SF) : List D → Env → Fl
  | [], ρ => .nx ρ
  | d :: ds, ρ => match G d ρ with
    | none => .stuck
    | some ρ1 => match g ρ1 with
      | .nx ρ2 => forL G g ds ρ2
      | .ct ρ2 => forL G g ds ρ2
      | .bk ρ2 => .nx ρ2
      | .rt m ρ2 => .rt m ρ2
      | .exc c d ρ2 => .exc c d ρ2
      | .stuck => .stuck
def sFor (F : IF) (G : GF) (g : SF) : SF := fun ρ => match F ρ with
  | .ok ds ρ1 => forL G g ds ρ1
  | .exc c d ρ1 => .exc c d ρ1
  | .stuck => .stuck
section
variable {X : Cx} {C : Base} {W : WX} {tg iter c : Expr} {body : List Stmt} {F : IF} {G : GF} {g : SF} {u : TF} {S : List Nat} {pos : Pos}
theorem tS_for {D : Ends} {σ : St} {H : Hp} (k : tS C W (sFor F G g) D σ H) : tFor (tI C W F) (tG C G S) (tS C W g) D σ H := by
  obtain ⟨Zb, Z, o, ρ, w, k⟩ := k
  refine ⟨Zb, Z, o, ρ, [], w, ?_⟩
  unfold sFor at k
  cases hf : F ρ with
  | stuck => rw [hf] at k; exact k
  | exc c d ρ1 => rw [hf] at k; exact fun Z1 H1 o1 cl dx w1 x1 => k Z1 H1 o1 σ cl dx w1 x1
  | ok ds ρ1 =>
    rw [hf] at k
    simp only at k
    intro Z1 H1 o1 J w1 wk
    refine ⟨fun i m σ H => m = ds.length - i ∧ i ≤ ds.length ∧ ∃ Z' o' ρ', Own (C.at Z1) Z' H o' σ ρ' [] ∧ kS (C.at Zb) W (forL G g (ds.drop i) ρ') D, ⟨ds.length, by simp, Nat.zero_le _, Z1, o1, ρ1, w1.up, k⟩, ?_⟩
    rintro i m σ2 H2 ⟨rfl, hi, Z2, o2, ρ2, w2, k2⟩
    have back : ∀ {Z' H' : Hp} {o' : Addr → Option Nat} {σ' : St} {ρ' : Env} {T : List (V × M)}, Own (C.at Z1) Z' H' o' σ' ρ' T → Own (C.at Zb) Z' H' o' σ' ρ' T := fun w' => w'.down w1.z0 w1.zg
    by_cases hlt : i < ds.length
    · refine .inr ⟨wk.go i H2 (w2.z0.trans w2.zh) hlt, fun σ' H' => i + 1 ≤ ds.length ∧ ∃ Z' o' ρ', Own (C.at Z1) Z' H' o' σ' ρ' [] ∧ kS (C.at Zb) W (forL G g (ds.drop (i + 1)) ρ') D, fun σ' H' hN => ⟨ds.length - (i + 1), by omega, rfl, hN.1, hN.2⟩, fun x H' y => ?_⟩
      obtain ⟨Z3, hz3, hh3, zh3, zn3, r3⟩ := wk.yld i H2 x H' Z2 ds[i] w2.z0 w2.zh (List.getElem?_eq_getElem hlt) y
      obtain ⟨o3, w3⟩ := w2.push (v := x) (m := .v ds[i]) hz3 hh3 zh3 zn3 r3
      have w3 : Own (C.at Z1) Z3 H' o3 σ2 ρ2 [] := w3.cut rfl
      refine ⟨_, Z3, o3, ρ2, [], ds[i], w3, r3, ?_⟩
      rw [List.drop_eq_getElem_cons hlt] at k2
      unfold forL at k2
      cases hg : G ds[i] ρ2 with
      | none => rw [hg] at k2; exact k2.elim
      | some ρ4 =>
        rw [hg] at k2
        simp only at k2
        intro Z4 H4 o4 σ4 hz4 _ w4
        refine ⟨_, Z4, o4, ρ4, w4, ?_⟩
        cases hb : g ρ4 with
        | nx ρ5 =>
          rw [hb] at k2
          exact fun Z5 H5 o5 σ5 w5 => ⟨hlt, Z5, o5, ρ5, w5, k2⟩
        | ct ρ5 =>
          rw [hb] at k2
          exact fun Z5 H5 o5 σ5 w5 => ⟨hlt, Z5, o5, ρ5, w5, k2⟩
        | bk ρ5 => rw [hb] at k2; exact fun Z5 H5 o5 σ5 w5 => k2 Z5 H5 o5 σ5 (back w5)
        | rt m ρ5 => rw [hb] at k2; exact fun Z5 H5 o5 σ5 v5 w5 => k2 Z5 H5 o5 σ5 v5 (back w5)
        | exc c d ρ5 => rw [hb] at k2; exact fun Z5 H5 o5 σ5 cl dx w5 x5 => k2 Z5 H5 o5 σ5 cl dx (back w5) x5
        | stuck => rw [hb] at k2; exact k2
    · have e : i = ds.length := by omega
      subst e
      rw [List.drop_length] at k2
      exact .inl ⟨wk.stop _ H2 (w2.z0.trans w2.zh) (Nat.le_refl _), k2 Z2 H2 o2 σ2 (back w2)⟩
theorem js_for (hp : PassesOwn (model X.prog X.w) X.A X.env X.xe) (hc : X.calm = true) (hi : JI X C W tg iter F) (hg : JG X C tg G S) (hb : JSs X C W body g) (hs : ∀ x, foldedSetIterable iter X.env x = pure x := by intro _; rfl) :
    JS X C W (.For tg iter body [] pos) (sFor F G g) := PS.imp (ps_for hp hc hi hg hb hs) fun _ _ _ => tS_for

/-! ### while -/
def whileL (u : TF) (g : SF) : Nat → Env → Fl
  | 0, _ => .stuck
  | n + 1, ρ => match u ρ with
    | .ok true ρ1 => match g ρ1 with
      | .nx ρ2 => whileL u g n ρ2
      | .ct ρ2 => whileL u g n ρ2
      | .bk ρ2 => .nx ρ2
      | .rt m ρ2 => .rt m ρ2
      | .exc c d ρ2 => .exc c d ρ2
      | .stuck => .stuck
    | .ok false ρ1 => .nx ρ1
    | .exc c d ρ1 => .exc c d ρ1
    | .stuck => .stuck
theorem whileL_more (u : TF) (g : SF) : ∀ (n : Nat) (ρ : Env), whileL u g n ρ ≠ .stuck → ∀ k, n ≤ k → whileL u g k ρ = whileL u g n ρ
  | 0, _, h, _, _ => absurd rfl h
  | n + 1, ρ, h, 0, hk => by omega
  | n + 1, ρ, h, k + 1, hk => by
    unfold whileL at h ⊢
    cases hu : u ρ with
    | stuck => rfl
    | exc c d ρ1 => rfl
    | ok b ρ1 =>
      rw [hu] at h
      cases b with
      | false => rfl
      | true =>
        simp only at h ⊢
        cases hg : g ρ1 with
        | nx ρ2 => rw [hg] at h; exact whileL_more u g n ρ2 h k (by omega)
        | ct ρ2 => rw [hg] at h; exact whileL_more u g n ρ2 h k (by omega)
        | bk ρ2 => rfl
        | rt m ρ2 => rfl
        | exc c d ρ2 => rfl
        | stuck => rfl
open Classical in
/-- enough turns, where there are enough -/
noncomputable def sWhile (u : TF) (g : SF) : SF := fun ρ => if h : ∃ n, whileL u g n ρ ≠ .stuck then whileL u g h.choose ρ else .stuck
theorem sWhile_of {u : TF} {g : SF} {ρ : Env} {n : Nat} (h : whileL u g n ρ ≠ .stuck) : sWhile u g ρ = whileL u g n ρ := by
  have e : ∃ n, whileL u g n ρ ≠ .stuck := ⟨n, h⟩
  unfold sWhile
  rw [dif_pos e]
  by_cases hn : n ≤ e.choose
  · exact whileL_more u g n ρ h _ hn
  · exact (whileL_more u g _ ρ e.choose_spec n (by omega)).symm
/-- one turn -/
theorem sWhile_step (u : TF) (g : SF) (ρ : Env) : sWhile u g ρ = match u ρ with
    | .ok true ρ1 => (match g ρ1 with
      | .nx ρ2 => sWhile u g ρ2
      | .ct ρ2 => sWhile u g ρ2
      | .bk ρ2 => .nx ρ2
      | .rt m ρ2 => .rt m ρ2
      | .exc c d ρ2 => .exc c d ρ2
      | .stuck => .stuck)
    | .ok false ρ1 => .nx ρ1
    | .exc c d ρ1 => .exc c d ρ1
    | .stuck => .stuck := by
  have one : ∀ n, whileL u g (n + 1) ρ = match u ρ with
    | .ok true ρ1 => (match g ρ1 with
      | .nx ρ2 => whileL u g n ρ2
      | .ct ρ2 => whileL u g n ρ2
      | .bk ρ2 => .nx ρ2
      | .rt m ρ2 => .rt m ρ2
      | .exc c d ρ2 => .exc c d ρ2
      | .stuck => .stuck)
    | .ok false ρ1 => .nx ρ1
    | .exc c d ρ1 => .exc c d ρ1
    | .stuck => .stuck := fun n => by rw [whileL]
  have go : ∀ ρ2, (∀ n, whileL u g (n + 1) ρ = whileL u g n ρ2) → sWhile u g ρ = sWhile u g ρ2 := fun ρ2 e => by
    by_cases h : ∃ n, whileL u g n ρ2 ≠ .stuck
    · obtain ⟨n, h⟩ := h
      rw [sWhile_of h, sWhile_of (n := n + 1) (by rw [e]; exact h), e]
    · have h2 : ¬ ∃ n, whileL u g n ρ ≠ .stuck := fun ⟨n, hn⟩ => by
        cases n with
        | zero => exact hn rfl
        | succ n => exact h ⟨n, by rw [← e]; exact hn⟩
      unfold sWhile
      rw [dif_neg h, dif_neg h2]
  have fin : ∀ r, r ≠ Fl.stuck → (∀ n, whileL u g (n + 1) ρ = r) → sWhile u g ρ = r := fun r hr e => by
    rw [sWhile_of (n := 1) (by rw [e]; exact hr), e]
  have no : (∀ n, whileL u g (n + 1) ρ = .stuck) → sWhile u g ρ = .stuck := fun e => by
    unfold sWhile
    rw [dif_neg]
    rintro ⟨n, hn⟩
    cases n with
    | zero => exact hn rfl
    | succ n => exact hn (e n)
  cases hu : u ρ with
  | stuck => exact no fun n => by rw [one, hu]
  | exc c d ρ1 => exact fin _ (fun z => by cases z) fun n => by rw [one, hu]
  | ok b ρ1 =>
    cases b with
    | false => exact fin _ (fun z => by cases z) fun n => by rw [one, hu]
    | true =>
      simp only
      cases hg : g ρ1 with
      | nx ρ2 => exact go ρ2 fun n => by rw [one, hu]; simp only [hg]
      | ct ρ2 => exact go ρ2 fun n => by rw [one, hu]; simp only [hg]
      | bk ρ2 => exact fin _ (fun z => by cases z) fun n => by rw [one, hu]; simp only [hg]
      | rt m ρ2 => exact fin _ (fun z => by cases z) fun n => by rw [one, hu]; simp only [hg]
      | exc c d ρ2 => exact fin _ (fun z => by cases z) fun n => by rw [one, hu]; simp only [hg]
      | stuck => exact no fun n => by rw [one, hu]; simp only [hg]
theorem tS_while {D : Ends} {σ : St} {H : Hp} (k : tS C W (sWhile u g) D σ H) : tWhile (tT C W u) (tS C W g) D σ H := by
  obtain ⟨Zb, Z, o, ρ, w, k⟩ := k
  have hx : ∃ n, whileL u g n ρ ≠ .stuck := by
    apply Classical.byContradiction
    intro h
    unfold sWhile at k
    rw [dif_neg h] at k
    exact k
  obtain ⟨n, hn⟩ := hx
  rw [sWhile_of hn] at k
  refine ⟨fun m σ H => ∃ Z o ρ, Own (C.at Zb) Z H o σ ρ [] ∧ kS (C.at Zb) W (whileL u g m ρ) D, ⟨n, Z, o, ρ, w, k⟩, ?_⟩
  rintro m σ2 H2 ⟨Z2, o2, ρ2, w2, k2⟩
  refine ⟨_, Z2, o2, ρ2, [], w2, ?_⟩
  cases m with
  | zero => exact k2.elim
  | succ m =>
    unfold whileL at k2
    cases hu : u ρ2 with
    | stuck => rw [hu] at k2; exact k2
    | exc c d ρ3 => rw [hu] at k2; exact fun Z3 H3 o3 cl dx w3 x3 => k2 Z3 H3 o3 σ2 cl dx w3 x3
    | ok b ρ3 =>
      rw [hu] at k2
      intro Z3 H3 o3 w3
      cases b with
      | false => exact k2 Z3 H3 o3 σ2 w3
      | true =>
        simp only at k2
        refine ⟨fun σ' H' => ∃ Z o ρ, Own (C.at Zb) Z H' o σ' ρ [] ∧ kS (C.at Zb) W (whileL u g m ρ) D, fun σ' H' hN => ⟨m, Nat.lt_succ_self m, hN⟩, ?_⟩
        refine ⟨_, Z3, o3, ρ3, w3, ?_⟩
        cases hb : g ρ3 with
        | nx ρ5 => rw [hb] at k2; exact fun Z5 H5 o5 σ5 w5 => ⟨Z5, o5, ρ5, w5, k2⟩
        | ct ρ5 => rw [hb] at k2; exact fun Z5 H5 o5 σ5 w5 => ⟨Z5, o5, ρ5, w5, k2⟩
        | bk ρ5 => rw [hb] at k2; exact k2
        | rt m ρ5 => rw [hb] at k2; exact k2
        | exc c d ρ5 => rw [hb] at k2; exact k2
        | stuck => rw [hb] at k2; exact k2
theorem js_while (hp : PassesOwn (model X.prog X.w) X.A X.env X.xe) (hc : JT X C W c u) (hb : JSs X C W body g) : JS X C W (.While c body [] pos) (sWhile u g) := PS.imp (ps_while hp hc hb) fun _ _ _ => tS_while
end
end FW
end

section
set_option Elab.async false
set_option linter.all false
set_option maxRecDepth 100000
set_option autoImplicit false
/-! FW5: comprehensions. -/
namespace FW
open PySem PySem.Spec PyProof.Rows L2

def unsetL : List Nat → Env → Env
  | [], ρ => ρ
  | i :: l, ρ => (unsetL l ρ).set i none
def restore (ρ1 : Env) : List Nat → Env → Env
  | [], ρ => ρ
  | i :: l, ρ => (restore ρ1 l ρ).set i (match slotOf ρ1 i with | some (.v d) => some (.v d) | _ => none)
theorem set_get {ρ : Env} {i j : Nat} {x : Option M} {m : M} (h : (ρ.set i x)[j]? = some (some m)) : (j = i ∧ x = some m) ∨ (j ≠ i ∧ ρ[j]? = some (some m)) := by
  by_cases e : i = j
  · subst e
    by_cases hl : i < ρ.length
    · rw [List.getElem?_set_self hl] at h
      exact .inl ⟨rfl, Option.some.inj h⟩
    · rw [List.getElem?_eq_none (by simpa using hl)] at h
      cases h
  · rw [List.getElem?_set_ne e] at h
    exact .inr ⟨fun z => e z.symm, h⟩
theorem unsetL_get : ∀ {vs : List Nat} {ρ : Env} {i : Nat} {m : M}, (unsetL vs ρ)[i]? = some (some m) → i ∉ vs ∧ ρ[i]? = some (some m)
  | [], _, _, _, h => ⟨by simp, h⟩
  | v :: vs, ρ, i, m, h => by
    rcases set_get h with ⟨_, e⟩ | ⟨ne, h⟩
    · cases e
    · obtain ⟨h1, h2⟩ := unsetL_get h
      exact ⟨fun z => (List.mem_cons.mp z).elim ne h1, h2⟩
theorem restore_get {ρ1 : Env} : ∀ {vs : List Nat} {ρ : Env} {i : Nat} {m : M}, (restore ρ1 vs ρ)[i]? = some (some m) → (i ∉ vs ∧ ρ[i]? = some (some m)) ∨ ∃ d, m = .v d ∧ ρ1[i]? = some (some (.v d))
  | [], _, _, _, h => .inl ⟨by simp, h⟩
  | v :: vs, ρ, i, m, h => by
    rcases set_get h with ⟨rfl, e⟩ | ⟨ne, h⟩
    · split at e
      · rename_i d h2
        cases e
        exact .inr ⟨d, rfl, slotOf_some h2⟩
      · cases e
    · rcases restore_get h with ⟨h1, h2⟩ | h2
      · exact .inl ⟨fun z => (List.mem_cons.mp z).elim ne h1, h2⟩
      · exact .inr h2

section
variable {C : Base} {Z Z' H H' : Hp} {o o' : Addr → Option Nat} {σ : St} {ρ ρ1 : Env} {T T1 : List (V × M)} {v : V} {m : M} {k : Nat} {vs : List Nat} {a : Addr} {u : HO}
theorem Own.wipe (w : Own C Z H o σ ρ T) (hv : ∀ i ∈ C.L, i ∉ vs) : Own C Z H o (L2.wipe σ vs) (unsetL vs ρ) T :=
  ⟨w.zh, w.gh, w.z0, w.zg, w.oz, w.og, by rw [wipe_length]; exact w.ln, fun i hi => by rw [wipe_get, if_neg (hv i hi)]; exact w.lk i hi, fun i m e => by
    obtain ⟨h1, h2⟩ := unsetL_get e
    rw [wipe_get, if_neg h1]
    exact w.sl i m h2, w.tp, w.gt, w.tb, w.oh, w.zf, w.zt⟩
theorem Own.unwipe {Zb Zc Hc : Hp} {oc : Addr → Option Nat} (w1 : Own (C.at Zb) Zc Hc oc σ ρ1 T1) (w : Own (C.at Zc) Z H o (L2.wipe σ vs) (unsetL vs ρ) T) (hv : ∀ i ∈ C.L, i ∉ vs) : Own (C.at Zb) Z H o σ (restore ρ1 vs (unsetL vs ρ)) T :=
  ⟨w.zh, w.gh, w1.z0.trans w.z0, fun a u e => (w.zg a u e).elim (w1.zg a u) .inr, w.oz, w.og, by have := w.ln; rw [wipe_length] at this; exact this, fun i hi => by
    have := w.lk i hi
    rw [wipe_get, if_neg (hv i hi)] at this
    exact this, fun i m e => by
    rcases restore_get e with ⟨h1, h2⟩ | ⟨d, rfl, h2⟩
    · obtain ⟨v, h3, h4⟩ := w.sl i m h2
      rw [wipe_get, if_neg h1] at h3
      exact ⟨v, h3, h4⟩
    · obtain ⟨v, h3, h4⟩ := w1.sl i _ h2
      exact ⟨v, h3, w.z0.dp _ _ h4⟩, w.tp, w.gt, w.tb, w.oh, w.zf, w.zt⟩
/-- an object that the owner k owns is written -/
theorem tabs_write {tb : List (Addr × Str)} {u0 : HO} (h : LamX.Tabs tb H) (ha : H a = some u0) (hu : Ownable u0) : LamX.Tabs tb (upd H a u) := fun p hp => by
  obtain ⟨ps, h1, h2, h3⟩ := h p hp
  refine ⟨ps, ?_, h2, fun pos cv hc => ?_⟩
  · rw [upd_ne (fun z => by
      rw [z, ha] at h1
      cases h1
      exact hu)]
    exact h1
  · obtain ⟨c, e1, e2⟩ := h3 pos cv hc
    refine ⟨c, e1, ?_⟩
    rw [upd_ne (fun z => by
      rw [z, ha] at e2
      have e3 := Option.some.inj e2
      subst e3
      exact hu)]
    exact e2
theorem Own.write (w : Own C Z H o σ ρ T) (ho : o a = some k) {u0 : HO} (ha : H a = some u0) (hu : Ownable u0) (hn : Ownable u) (ρ' : Env) (T' : List (V × M)) (hs : ∀ i m, ρ'[i]? = some (some m) → (ρ[i]? = some (some m) ∧ i ≠ k) ∨ ∃ v, σ[i]? = some (some v) ∧ RM C.cls Z (upd H a u) (fun b => o b = some i) v m)
    (ht : ∀ j v m, T'[j]? = some (v, m) → (T[j]? = some (v, m) ∧ C.n + j ≠ k) ∨ RM C.cls Z (upd H a u) (fun b => o b = some (C.n + j)) v m) : Own C Z (upd H a u) o σ ρ' T' := by
  have ne : ∀ b w' , Z b = some w' → b ≠ a := fun b w' e z => by
    subst z
    rw [w.oz _ _ ho] at e
    cases e
  refine ⟨fun b x e => by rw [upd_ne (ne b x e)]; exact w.zh b x e, fun b x e => ?_, w.z0, w.zg, w.oz, w.og, w.ln, w.lk, fun i m e => ?_, fun j v m e => ?_, w.gt, tabs_write w.tb ha hu, fun b n e => ?_, w.zf, w.zt⟩
  · rw [upd_ne (fun z => by
      subst z
      rw [w.og _ _ ho] at e
      cases e)]
    exact w.gh b x e
  · rcases hs i m e with ⟨e1, n1⟩ | h
    · obtain ⟨v, h1, h2⟩ := w.sl i m e1
      refine ⟨v, h1, h2.mono Sub.rfl' fun b x _ p q => ⟨p, ?_⟩⟩
      have p : o b = some i := p
      rw [upd_ne (fun z => by
        subst z
        rw [ho] at p
        exact n1 (Option.some.inj p).symm)]
      exact q
    · exact h
  · rcases ht j v m e with ⟨e1, n1⟩ | h
    · refine (w.tp j v m e1).mono Sub.rfl' fun b x _ p q => ⟨p, ?_⟩
      have p : o b = some (C.n + j) := p
      rw [upd_ne (fun z => by
        subst z
        rw [ho] at p
        exact n1 (Option.some.inj p).symm)]
      exact q
    · exact h
  · by_cases hb : b = a
    · subst hb
      exact ⟨u, upd_same, hn⟩
    · obtain ⟨x, h1, h2⟩ := w.oh b n e
      exact ⟨x, by rw [upd_ne hb]; exact h1, h2⟩
/-- a temporary list, under another one, is written -/
theorem Own.addT {v y : V} {xs : List D} {d : D} (w : Own C Z H o σ ρ (T ++ [(v, .ml xs)] ++ [(y, .v d)])) (hz : sizeOk xs.length = true) : ∃ D acc, v = .ref D ∧ H D = some (.lst acc) ∧ acc.length < sizeLine ∧ Own C Z (upd H D (.lst (acc ++ [y]))) o σ ρ (T ++ [(v, .ml (xs ++ [d]))]) := by
  have r : RM C.cls Z H (fun b => o b = some (C.n + T.length)) v (.ml xs) := w.drop.last
  have r2 : RD C.cls Z y d := w.last
  obtain ⟨a, ys, rfl, p, h1, h2⟩ := r
  refine ⟨a, ys, rfl, h1, ?_, ?_⟩
  · rw [h2.length]
    have := Nat.le_of_ble_eq_true hz
    rw [sizeLine_eq]
    omega
  · refine w.write (u := .lst (ys ++ [y])) p h1 trivial trivial ρ _ (fun i m e => .inl ⟨e, ?_⟩) fun j v m e => ?_
    · have := w.slot_lt e
      omega
    · by_cases hj : j < T.length
      · rw [List.getElem?_append_left hj] at e
        refine .inl ⟨?_, by omega⟩
        rw [List.getElem?_append_left (by simp; omega), List.getElem?_append_left hj]
        exact e
      · have hj2 : j = T.length := by
          have := (List.getElem?_eq_some_iff.mp e).1
          simp at this
          omega
        subst hj2
        rw [List.getElem?_append_right (Nat.le_refl _)] at e
        simp at e
        obtain ⟨rfl, rfl⟩ := e
        exact .inr ⟨a, ys ++ [y], rfl, p, upd_same, h2.snoc r2⟩
end

abbrev W0 : WX := fun _ _ _ _ => False
/-- the turns -/
def lcL (G : GF) (u : TF) (f : JF) (vs : List Nat) : List D → Env → List D → Res Src
  | [], ρ, acc => .ok (.tmp (.ml acc)) ρ
  | d :: ds, ρ, acc => match G d (unsetL vs ρ) with
    | none => .stuck
    | some ρ1 => match u ρ1 with
      | .ok false ρ2 => lcL G u f vs ds ρ2 acc
      | .ok true ρ2 => match jFrz f ρ2 with
        | .ok (.tmp (.v d')) ρ3 => if sizeOk acc.length then lcL G u f vs ds ρ3 (acc ++ [d']) else .stuck
        | _ => .stuck
      | _ => .stuck
/-- [f for G in F if u]; vs: its own slots -/
def jLc (F : IF) (G : GF) (u : TF) (f : JF) (vs : List Nat) : JF := fun ρ => (F ρ).bind fun ds ρ1 => (lcL G u f vs ds ρ1 []).bind fun s ρ2 => .ok s (restore ρ1 vs (unsetL vs ρ2))
def tYe : TF := fun ρ => .ok true ρ

section
variable {X : Cx} {C : Base} {W : WX} {F : IF} {G : GF} {u : TF} {f : JF} {vs S : List Nat}
theorem lcL_exc {c : Str} {d : D} {ρ' : Env} : ∀ (ds : List D) (ρ : Env) (acc : List D), lcL G u f vs ds ρ acc ≠ .exc c d ρ'
  | [], _, _ => fun h => by cases h
  | d :: ds, ρ, acc => by
    unfold lcL
    intro h
    split at h
    · cases h
    · split at h
      · exact lcL_exc ds _ _ h
      · split at h
        · split at h
          · exact lcL_exc ds _ _ h
          · cases h
        · cases h
      · cases h
theorem tJ_lc (hS : S.all (fun i => vs.elem i) = true) (hL : C.L.all (fun i => !vs.elem i) = true) {σ : St} {H : Hp} {Q : VK} (k : tJ C W (jLc F G u f vs) σ H Q) :
    tLc (tI C W F) (tG C G S) (tT C W0 u) (tJ C W0 (jFrz f)) vs σ H Q := by
  have hS : ∀ i ∈ S, i ∈ vs := fun i hi => List.elem_iff.mp (List.all_eq_true.mp hS i hi)
  have hL : ∀ i ∈ C.L, i ∉ vs := fun i hi z => by
    have := List.all_eq_true.mp hL i hi
    rw [List.elem_eq_true_of_mem z] at this
    cases this
  obtain ⟨Zb, Z, o, ρ, T, w, k⟩ := k
  refine ⟨Zb, Z, o, ρ, T, w, ?_⟩
  unfold jLc at k
  cases hf : F ρ with
  | stuck => rw [hf] at k; exact k
  | exc c d ρ1 => rw [hf] at k; exact k
  | ok ds ρ1 =>
    rw [hf] at k
    simp only [Res.bind_ok] at k
    intro Z1 H1 o1 J w1 wk D hD
    obtain ⟨o2, w2⟩ := w1.up.push (v := .ref D) (m := .ml []) (Z' := Z1) (H' := upd H1 D (.lst [])) Sub.rfl' (Sub.new hD) (w1.zh.updR (w1.zh.none hD)) (fun a u e => .inl e) ⟨D, [], rfl, ⟨hD, w1.zh.none hD⟩, upd_same, .nil⟩
    refine ⟨fun i m H => m = ds.length - i ∧ i ≤ ds.length ∧ ∃ Z' o' ρ' acc, Own (C.at Z1) Z' H o' (wipe σ vs) (unsetL vs ρ') (T ++ [(.ref D, .ml acc)]) ∧
      kJ (C.at Zb) W σ T ((lcL G u f vs (ds.drop i) ρ' acc).bind fun s ρ2 => .ok s (restore ρ1 vs (unsetL vs ρ2))) Q, ⟨ds.length, by simp, Nat.zero_le _, Z1, o2, ρ1, [], w2.wipe hL, k⟩, ?_⟩
    rintro i m H2 ⟨rfl, hi, Z2, o2, ρ2, acc, w2, k2⟩
    by_cases hlt : i < ds.length
    · refine .inr ⟨wk.go i H2 (w2.z0.trans w2.zh) hlt, fun H => i + 1 ≤ ds.length ∧ ∃ Z' o' ρ' acc, Own (C.at Z1) Z' H o' (wipe σ vs) (unsetL vs ρ') (T ++ [(.ref D, .ml acc)]) ∧
        kJ (C.at Zb) W σ T ((lcL G u f vs (ds.drop (i + 1)) ρ' acc).bind fun s ρ2 => .ok s (restore ρ1 vs (unsetL vs ρ2))) Q, fun H' hN => ⟨ds.length - (i + 1), by omega, rfl, hN.1, hN.2⟩, fun x H' y => ?_⟩
      obtain ⟨Z3, hz3, hh3, zh3, zn3, r3⟩ := wk.yld i H2 x H' Z2 ds[i] w2.z0 w2.zh (List.getElem?_eq_getElem hlt) y
      obtain ⟨o3, w3⟩ := w2.push (v := x) (m := .v ds[i]) hz3 hh3 zh3 zn3 r3
      have w3 : Own (C.at Z1) Z3 H' o3 (wipe σ vs) (unsetL vs ρ2) (T ++ [(.ref D, .ml acc)]) := w3.cut rfl
      refine ⟨_, Z3, o3, _, _, ds[i], w3, r3, ?_⟩
      rw [List.drop_eq_getElem_cons hlt] at k2
      unfold lcL at k2
      cases hg : G ds[i] (unsetL vs ρ2) with
      | none => rw [hg] at k2; exact k2.elim
      | some ρ4 =>
        rw [hg] at k2
        simp only at k2
        intro Z4 H4 o4 σ4 hz4 kp w4
        have eσ : wipe σ4 vs = wipe σ vs := by
          rw [kp vs hS]
          refine List.ext_getElem? fun j => ?_
          rw [wipe_get, wipe_get]
          by_cases hj : j ∈ vs
          · rw [if_pos hj, if_pos hj, Option.map_map]; rfl
          · rw [if_neg hj]
        refine ⟨eσ, _, Z4, o4, ρ4, _, w4, ?_⟩
        cases hu : u ρ4 with
        | stuck => rw [hu] at k2; exact k2.elim
        | exc c d ρ5 => rw [hu] at k2; exact k2.elim
        | ok b ρ5 =>
          rw [hu] at k2
          intro Z5 H5 o5 w5
          cases b with
          | false =>
            simp only at k2
            show i + 1 ≤ ds.length ∧ _
            refine ⟨hlt, Z5, o5, ρ5, acc, ?_, k2⟩
            have := w5.wipe hL (vs := vs)
            rw [eσ] at this
            exact this
          | true =>
            simp only at k2
            show tJ C W0 (jFrz f) σ4 H5 _
            refine ⟨_, Z5, o5, ρ5, _, w5, ?_⟩
            cases hj : jFrz f ρ5 with
            | stuck => rw [hj] at k2; exact k2.elim
            | exc c d ρ6 => rw [hj] at k2; exact k2.elim
            | ok s ρ6 =>
              rw [hj] at k2
              intro Z6 H6 o6 v6 T6 w6 a6
              cases s with
              | slot i => exact k2.elim
              | tmp m =>
                have e6 : T6 = T ++ [(V.ref D, M.ml acc)] ++ [(v6, m)] := a6
                subst e6
                cases m with
                | v d' =>
                  simp only at k2
                  by_cases hz : sizeOk acc.length = true
                  · rw [if_pos hz] at k2
                    obtain ⟨D', acc', e1, e2, e3, w7⟩ := w6.addT hz
                    cases e1
                    refine ⟨acc', e2, e3, hlt, Z6, o6, ρ6, _, ?_, k2⟩
                    have := w7.wipe hL (vs := vs)
                    rw [eσ] at this
                    exact this
                  · rw [if_neg hz] at k2; exact k2.elim
                | _ => exact k2.elim
    · have e : i = ds.length := by omega
      subst e
      rw [List.drop_length] at k2
      exact .inl ⟨wk.stop _ H2 (w2.z0.trans w2.zh) (Nat.le_refl _), k2 Z2 H2 o2 (.ref D) _ (Own.unwipe w1 w2 hL) rfl⟩
theorem jts_none : PTs X [] (tT C W0 tYe) := by
  refine ⟨fun pins s σ H Q I k => ?_⟩
  obtain ⟨Zb, Z, o, ρ, T, w, k⟩ := k
  exact pts_nil.run pins s σ H Q I (k Z H o w)
variable {elt tg iter : Expr} {ifs : List Expr} {scope : Scope} {own : List (Str × Nat)} {pos : Pos}
theorem je_lc (hc : X.calm = true) (hN : X.N.Nodup) (hi : JI X C W tg iter F) (ok : BlkOk X.N X.env.scope scope own)
    (hg : ∀ (s : Shared) (H : Hp) (A : Addr) (cl : List (Str × Addr)) (fp : List Addr), JG (X.blk s H scope (compEnvC scope cl A X.env) fp) C tg G S)
    (ht : ∀ (s : Shared) (H : Hp) (A : Addr) (cl : List (Str × Addr)) (fp : List Addr), PTs (X.blk s H scope (compEnvC scope cl A X.env) fp) ifs (tT C W0 u))
    (he : ∀ (s : Shared) (H : Hp) (A : Addr) (cl : List (Str × Addr)) (fp : List Addr), JE (X.blk s H scope (compEnvC scope cl A X.env) fp) C W0 elt f)
    (hS : S.all (fun i => (own.map (·.2)).elem i) = true := by rfl) (hL : C.L.all (fun i => !(own.map (·.2)).elem i) = true := by rfl)
    (hs : ∀ x, foldedSetIterable iter X.env x = pure x := by intro _; rfl) : JE X C W (.ListComp elt [⟨tg, iter, ifs, 0⟩] scope pos) (jLc F G u f (own.map (·.2))) :=
  PE.imp (pe_lc hc hN hi ok hg ht (fun s H A cl fp => je_frz (he s H A cl fp)) hs) fun _ _ _ => tJ_lc hS hL
theorem js_setLc {i : Nat} {y : Str} {py spos : Pos} (hc : X.calm = true) (hN : X.N.Nodup) (hy : X.N[i]? = some y) (hyl : X.env.scope.names.lookup y = some .local)
    (hsw : swapsWith (.ListComp elt [⟨tg, iter, ifs, 0⟩] scope pos) (some (.Name y py)) spos.line X.env = pure true) (hi : JI X C W tg iter F) (ok : BlkOk X.N X.env.scope scope own)
    (hg : ∀ (s : Shared) (H : Hp) (A : Addr) (cl : List (Str × Addr)) (fp : List Addr), JG (X.blk s H scope (compEnvC scope cl A X.env) fp) C tg G S)
    (ht : ∀ (s : Shared) (H : Hp) (A : Addr) (cl : List (Str × Addr)) (fp : List Addr), PTs (X.blk s H scope (compEnvC scope cl A X.env) fp) ifs (tT C W0 u))
    (he : ∀ (s : Shared) (H : Hp) (A : Addr) (cl : List (Str × Addr)) (fp : List Addr), JE (X.blk s H scope (compEnvC scope cl A X.env) fp) C W0 elt f)
    (hS : S.all (fun i => (own.map (·.2)).elem i) = true := by rfl) (hL : C.L.all (fun i => !(own.map (·.2)).elem i) = true := by rfl) (hb : Nat.blt i C.n = true := by rfl) (hl : C.L.elem i = false := by rfl)
    (hs : ∀ x, foldedSetIterable iter X.env x = pure x := by intro _; rfl) : JS X C W (.Assign [.Name y py] (.ListComp elt [⟨tg, iter, ifs, 0⟩] scope pos) spos) (sSet i (jLc F G u f (own.map (·.2)))) :=
  PS.imp (ps_setLc hc hN hy hyl hsw hi ok hg ht (fun s H A cl fp => je_frz (he s H A cl fp)) hs) fun D σ H k => by
    have q := tS_set (f := jLc F G u f (own.map (·.2))) hb hl k
    exact tJ_lc (Q := fun x H1 => gName i x σ H1 D.nx) hS hL q
end
end FW
end

section
set_option Elab.async false
set_option linter.all false
set_option maxRecDepth 100000
set_option autoImplicit false
/-! FW6: defs and their calls. -/
namespace FW
open PySem PySem.Spec PyProof.Rows L2

inductive FR where
  | ok (m : M) (ms : List (Option M))
  | exc (c : Str) (d : D) (ms : List (Option M))
  | stuck
abbrev FF := List M → FR
def kF (C : Base) (σ : St) (r : FR) (Q : VK) (E : XK) : Prop := match r with
  | .ok m ms => ∀ v Z H o, Own C Z H o σ ms [(v, m)] → Q v H
  | .exc c d ms => ∀ Z H o cl dx, Own C Z H o σ ms [] → Exc C.cls Z H c d cl dx → E (.ref cl) (some dx) H
  | .stuck => False
/-- the promise of a def that computes F -/
def spF (cls : Cls) (n : Nat) (F : FF) : Sp := fun vs H Q E => vs.length = n ∧ ∃ Z G tb Zf o ms, ms.length = vs.length ∧ Own ⟨Z, G, vs.length, [], [], cls, tb, Zf⟩ Z H o (vs.map some) (ms.map some) [] ∧ kF ⟨Z, G, vs.length, [], [], cls, tb, Zf⟩ (vs.map some) (F ms) Q E

/-! ### a body -/
def rep (L : List Nat) (k : Nat) (ρ : Env) : List (Option M) := (List.range k).map fun (i : Nat) => if L.elem i then slotOf ρ i else none
def fnF (g : SF) (L : List Nat) (n k : Nat) : FF := fun ms => match g (ms.map some ++ List.replicate (n - k) none) with
  | .nx ρ => .ok (.v .none) (rep L k ρ)
  | .rt m ρ => .ok m (rep L k ρ)
  | .exc c d ρ => .exc c d (rep L k ρ)
  | _ => .stuck
abbrev bW (E : XK) : WX := fun cls d _ H => E cls d H
theorem rep_get {L : List Nat} {k : Nat} {ρ : Env} {i : Nat} {m : M} (h : (rep L k ρ)[i]? = some (some m)) : i < k ∧ i ∈ L ∧ ρ[i]? = some (some m) := by
  unfold rep at h
  rw [List.getElem?_map] at h
  cases e : (List.range k)[i]? with
  | none => rw [e] at h; cases h
  | some j =>
    have hi : i < k := by
      have := (List.getElem?_eq_some_iff.mp e).1
      simpa using this
    rw [List.getElem?_range hi] at e
    cases e
    rw [List.getElem?_range hi] at h
    have h2 : (if L.elem i = true then slotOf ρ i else none) = some m := by simpa using h
    by_cases hL : L.elem i = true
    · rw [if_pos hL] at h2
      exact ⟨hi, List.elem_iff.mp hL, slotOf_some h2⟩
    · rw [if_neg hL] at h2
      cases h2
section
variable {Z G Z' H' Zf : Hp} {cls : Cls} {tb : List (Addr × Str)} {o o' : Addr → Option Nat} {vs : List V} {ms : List M} {N : List Str} {L : List Nat} {H : Hp}
theorem Own.enter (w : Own ⟨Z, G, vs.length, [], [], cls, tb, Zf⟩ Z H o (vs.map some) (ms.map some) []) (hl : ms.length = vs.length) (hN : vs.length ≤ N.length) :
    Own (Base.at ⟨Z, G, N.length, L, L2.start N vs, cls, tb, Zf⟩ Z) Z H o (L2.start N vs) (ms.map some ++ List.replicate (N.length - vs.length) none) [] := by
  refine ⟨w.zh, w.gh, Sub.rfl', fun a u e => .inl e, w.oz, w.og, ?_, fun i hi => rfl, fun i m e => ?_, fun j v m e => (by cases e), w.gt, w.tb, w.oh, w.zf, w.zt⟩
  · unfold L2.start
    simp
    omega
  · by_cases hi : i < ms.length
    · rw [List.getElem?_append_left (by simpa using hi)] at e
      obtain ⟨v, h1, h2⟩ := w.sl i m e
      refine ⟨v, ?_, h2⟩
      unfold L2.start
      rw [List.getElem?_append_left (by rw [List.length_map]; omega)]
      exact h1
    · rw [List.getElem?_append_right (by simpa using hi)] at e
      have := List.mem_of_getElem? e
      rw [List.mem_replicate] at this
      cases this.2
theorem Own.leave {σ : St} {ρ : Env} {T : List (V × M)} (w : Own (Base.at ⟨Z, G, N.length, L, L2.start N vs, cls, tb, Zf⟩ Z) Z' H' o' σ ρ T) (hN : vs.length ≤ N.length) (hT : T.length ≤ 1) :
    ∃ o'', Own ⟨Z, G, vs.length, [], [], cls, tb, Zf⟩ Z' H' o'' (vs.map some) (rep L vs.length ρ) T := by
  classical
  have ev : ∀ a n, (match o' a with | some n => if n = N.length then some vs.length else if n < vs.length then some n else none | none => none) = some n → ∃ k, o' a = some k := fun a n e => by
    cases h : o' a with
    | none => rw [h] at e; cases e
    | some k => exact ⟨k, rfl⟩
  refine ⟨fun a => match o' a with | some n => if n = N.length then some vs.length else if n < vs.length then some n else none | none => none,
    w.zh, w.gh, w.z0, w.zg, fun a n e => ?_, fun a n e => ?_, by simp, fun i hi => (by cases hi), fun i m e => ?_, fun j v m e => ?_, w.gt, w.tb, fun a n e => (ev a n e).elim fun k e' => w.oh a k e', w.zf, w.zt⟩
  · obtain ⟨k, e'⟩ := ev a n e
    exact w.oz a k e'
  · obtain ⟨k, e'⟩ := ev a n e
    exact w.og a k e'
  · obtain ⟨hi, hL, e2⟩ := rep_get e
    obtain ⟨v, h1, h2⟩ := w.sl i m e2
    have h3 : σ[i]? = (L2.start N vs)[i]? := w.lk i hL
    refine ⟨v, ?_, h2.mono Sub.rfl' fun a u _ p q => ⟨?_, q⟩⟩
    · rw [h3] at h1
      unfold L2.start at h1
      rw [List.getElem?_append_left (by rw [List.length_map]; exact hi)] at h1
      exact h1
    · have p : o' a = some i := p
      show (match o' a with | some n => if n = N.length then some vs.length else if n < vs.length then some n else none | none => none) = some i
      rw [p]
      show (if i = N.length then some vs.length else if i < vs.length then some i else none) = some i
      rw [if_neg (by omega), if_pos hi]
  · have hj : j = 0 := by
      have := (List.getElem?_eq_some_iff.mp e).1
      omega
    subst hj
    refine (w.tp 0 v m e).mono Sub.rfl' fun a u _ p q => ⟨?_, q⟩
    have p : o' a = some (N.length + 0) := p
    show (match o' a with | some n => if n = N.length then some vs.length else if n < vs.length then some n else none | none => none) = some (vs.length + 0)
    rw [p]
    exact if_pos (Nat.add_zero _)
end
section
variable {P : Program} {w : World} {K : PySem.W.Frag} {mg : Str → Option Value} {base : Heap}
theorem fn_mk {x qual : Str} {st : Stmt} {f : Addr} {fd : FuncData} {N ps : List Str} {k : Nat} {cls : Cls} {g : SF} (L : List Nat) (F : Fun K x qual st f fd) (S : FnScope N ps (defScope st))
    (hb : ∀ (cdv : Value) (A : Around) (outer : List PySem.Env) (s : Shared) (H : Hp) (E : XK) (Z G : Hp) (σ : St) (tb : List (Addr × Str)) (Zf : Hp), Room k (A.deeper (envOfC qual (defScope st) s.heap.objs.size f cdv)) →
      JSs (cxOf (L2.CX P w) P w K mg base N qual (defScope st) f cdv A outer s H E) ⟨Z, G, N.length, L, σ, cls, tb, Zf⟩ (bW E) (defBody st) g) :
    FnOk P w K mg base (L2.CX P w) (k + 1) f fd ps (spF cls ps.length (fnF g L N.length ps.length)) := by
  have hps : ps.length ≤ N.length := by
    have := congrArg List.length S.pre
    rw [List.length_take] at this
    omega
  refine F.okX S (fun vs H Q E h => h.1) fun cdv A outer s H vs Q E hr h => ?_
  obtain ⟨hv, Z, G, tb, Zf, o, ms, hl, w0, k0⟩ := h
  have hN : vs.length ≤ N.length := by omega
  refine ⟨_, hb cdv A outer s H E Z G (L2.start N vs) tb Zf hr, Z, Z, o, _, w0.enter hl hN, ?_⟩
  unfold fnF at k0
  rw [← hv] at k0
  cases hg : g (ms.map some ++ List.replicate (N.length - vs.length) none) with
  | nx ρ =>
    rw [hg] at k0
    intro Z1 H1 o1 σ1 w1
    obtain ⟨o2, w2⟩ := w1.push (v := .non) (m := .v .none) Sub.rfl' Sub.rfl' w1.zh (fun a u e => .inl e) .non
    obtain ⟨o3, w3⟩ := Own.leave w2 hN (Nat.le_refl _)
    exact k0 .non Z1 H1 o3 w3
  | rt m ρ =>
    rw [hg] at k0
    intro Z1 H1 o1 σ1 v w1
    obtain ⟨o3, w3⟩ := Own.leave w1 hN (Nat.le_refl _)
    exact k0 v Z1 H1 o3 w3
  | exc c d ρ =>
    rw [hg] at k0
    intro Z1 H1 o1 σ1 cl dx w1 x1
    obtain ⟨o3, w3⟩ := Own.leave w1 hN (Nat.zero_le _)
    exact k0 Z1 H1 o3 cl dx w3 x1
  | bk ρ => rw [hg] at k0; exact k0.elim
  | ct ρ => rw [hg] at k0; exact k0.elim
  | stuck => rw [hg] at k0; exact k0.elim
end

/-! ### a call -/
def M.isData : M → Bool
  | .v _ => true
  | _ => false
def slotsIn : List Src → List Nat
  | [] => []
  | .slot i :: ss => i :: slotsIn ss
  | .tmp _ :: ss => slotsIn ss
def okArgs : List Src → Bool
  | [] => true
  | .slot i :: ss => !(slotsIn ss).elem i && okArgs ss
  | .tmp m :: ss => m.isData && okArgs ss
def back : List Src → List (Option M) → Env → Env
  | [], _, ρ => ρ
  | .slot i :: ss, [], ρ => back ss [] (ρ.set i none)
  | .slot i :: ss, m :: ms, ρ => back ss ms (ρ.set i m)
  | .tmp _ :: ss, [], ρ => back ss [] ρ
  | .tmp _ :: ss, _ :: ms, ρ => back ss ms ρ
def frR (ss : List Src) (ρ : Env) : FR → Res Src
  | .ok m ms => .ok (.tmp m) (back ss ms ρ)
  | .exc c d ms => .exc c d (back ss ms ρ)
  | .stuck => .stuck
def jFn (F : FF) (g : AF) : JF := fun ρ => (g ρ).bind fun ss ρ1 => match okArgs ss, gets ρ1 ss with
  | true, some ms => frR ss ρ1 (F ms)
  | _, _ => .stuck
/-- the slot that the j-th argument is -/
def tagAt (ss : List Src) (j : Nat) : Option Nat := match ss[j]? with
  | some (.slot i) => some i
  | _ => none
theorem slotsIn_mem : ∀ {ss : List Src} {j i : Nat}, tagAt ss j = some i → i ∈ slotsIn ss
  | [], j, i, h => by cases h
  | s :: ss, 0, i, h => by
    cases s with
    | slot k =>
      have : some k = some i := h
      cases this
      exact List.mem_cons_self ..
    | tmp m => cases h
  | s :: ss, j + 1, i, h => by
    have h : tagAt ss j = some i := h
    have := slotsIn_mem h
    cases s with
    | slot k => exact List.mem_cons_of_mem _ this
    | tmp m => exact this
theorem tag_inj : ∀ {ss : List Src} {j k i : Nat}, okArgs ss = true → tagAt ss j = some i → tagAt ss k = some i → j = k
  | [], j, k, i, _, h, _ => by cases h
  | s :: ss, 0, 0, i, _, _, _ => rfl
  | s :: ss, 0, k + 1, i, ok, h, h' => by
    cases s with
    | slot n =>
      have e : some n = some i := h
      cases e
      have := slotsIn_mem (show tagAt ss k = some i from h')
      unfold okArgs at ok
      rw [List.elem_eq_true_of_mem this] at ok
      cases ok
    | tmp m => cases h
  | s :: ss, j + 1, 0, i, ok, h, h' => by
    cases s with
    | slot n =>
      have e : some n = some i := h'
      cases e
      have := slotsIn_mem (show tagAt ss j = some i from h)
      unfold okArgs at ok
      rw [List.elem_eq_true_of_mem this] at ok
      cases ok
    | tmp m => cases h'
  | s :: ss, j + 1, k + 1, i, ok, h, h' => by
    have ok' : okArgs ss = true := by
      cases s with
      | slot n => unfold okArgs at ok; rw [Bool.and_eq_true] at ok; exact ok.2
      | tmp m => unfold okArgs at ok; rw [Bool.and_eq_true] at ok; exact ok.2
    rw [tag_inj ok' (show tagAt ss j = some i from h) (show tagAt ss k = some i from h')]
theorem back_get : ∀ {ss : List Src} {ms : List (Option M)} {ρ : Env} {i : Nat} {m : M}, (back ss ms ρ)[i]? = some (some m) → (ρ[i]? = some (some m) ∧ ∀ j, tagAt ss j ≠ some i) ∨ ∃ j, tagAt ss j = some i ∧ ms[j]? = some (some m)
  | [], _, _, _, _, h => .inl ⟨h, fun j z => by cases z⟩
  | .slot k :: ss, [], ρ, i, m, h => by
    rcases back_get (ss := ss) h with ⟨h1, h2⟩ | ⟨j, h1, h2⟩
    · rcases set_get h1 with ⟨_, e⟩ | ⟨ne, h1⟩
      · cases e
      · refine .inl ⟨h1, fun j z => ?_⟩
        cases j with
        | zero => exact ne (Option.some.inj (show some k = some i from z)).symm
        | succ j => exact h2 j z
    · cases h2
  | .slot k :: ss, x :: ms, ρ, i, m, h => by
    rcases back_get (ss := ss) h with ⟨h1, h2⟩ | ⟨j, h1, h2⟩
    · rcases set_get h1 with ⟨e1, e⟩ | ⟨ne, h1⟩
      · subst e1
        exact .inr ⟨0, rfl, by rw [e]; rfl⟩
      · refine .inl ⟨h1, fun j z => ?_⟩
        cases j with
        | zero => exact ne (Option.some.inj (show some k = some i from z)).symm
        | succ j => exact h2 j z
    · exact .inr ⟨j + 1, h1, h2⟩
  | .tmp _ :: ss, [], ρ, i, m, h => by
    rcases back_get (ss := ss) h with ⟨h1, h2⟩ | ⟨j, h1, h2⟩
    · refine .inl ⟨h1, fun j z => ?_⟩
      cases j with
      | zero => cases z
      | succ j => exact h2 j z
    · cases h2
  | .tmp _ :: ss, _ :: ms, ρ, i, m, h => by
    rcases back_get (ss := ss) h with ⟨h1, h2⟩ | ⟨j, h1, h2⟩
    · refine .inl ⟨h1, fun j z => ?_⟩
      cases j with
      | zero => cases z
      | succ j => exact h2 j z
    · exact .inr ⟨j + 1, h1, h2⟩
theorem gets_len {ρ : Env} : ∀ {ss : List Src} {ms : List M}, gets ρ ss = some ms → ms.length = ss.length
  | [], ms, h => by cases h; rfl
  | s :: ss, ms, h => by
    unfold gets at h
    split at h
    · rename_i m ms' h1 h2
      cases h
      simp [gets_len h2]
    · cases h
theorem Ats.len {σ : St} : ∀ {ss : List Src} {T T' : List (V × M)} {vs : List V}, Ats σ T T' vs ss → vs.length = ss.length
  | [], _, _, _, h => by rw [h.1]; rfl
  | s :: ss, _, _, _, h => by
    obtain ⟨v, r, T1, rfl, _, h2⟩ := h
    simp [Ats.len h2]
section
variable {C : Base} {Z H : Hp} {o : Addr → Option Nat} {σ : St} {ρ : Env} {T T' T'' R : List (V × M)} {vs : List V} {ss : List Src} {ms : List M}
/-- each argument: a slot, or data -/
theorem Ats.each : ∀ {ss : List Src} {T T' : List (V × M)} {vs : List V} {ms : List M} {R : List (V × M)}, Ats σ T T' vs ss → Own C Z H o σ ρ T'' → T'' = T' ++ R → gets ρ ss = some ms → okArgs ss = true → ∀ j m, ms[j]? = some m →
    ∃ v, vs[j]? = some v ∧ ((∃ i, tagAt ss j = some i ∧ σ[i]? = some (some v) ∧ RM C.cls Z H (fun a => o a = some i) v m) ∨ (tagAt ss j = none ∧ ∀ P, RM C.cls Z H P v m))
  | [], _, _, _, _, _, _, _, _, g, _, j, m, hj => by
    cases g
    cases hj
  | s :: ss, T, T', vs, ms, R, h, w, e, g, ok, j, m, hj => by
    obtain ⟨v, r, T1, rfl, h1, h2⟩ := h
    unfold gets at g
    split at g
    · rename_i m1 ms' g1 g2
      cases g
      have ok' : okArgs ss = true := by
        cases s with
        | slot n => unfold okArgs at ok; rw [Bool.and_eq_true] at ok; exact ok.2
        | tmp m => unfold okArgs at ok; rw [Bool.and_eq_true] at ok; exact ok.2
      cases j with
      | succ j =>
        have hj : ms'[j]? = some m := by simpa using hj
        obtain ⟨v', e1, e2⟩ := Ats.each h2 w e g2 ok' j m hj
        exact ⟨v', by simpa using e1, e2⟩
      | zero =>
        have hj : m1 = m := by simpa using hj
        subst hj
        refine ⟨v, rfl, ?_⟩
        cases s with
        | slot i =>
          obtain ⟨v', e1, e2⟩ := w.sl i m1 (slotOf_some g1)
          have := h1.1
          rw [e1] at this
          cases this
          exact .inl ⟨i, rfl, e1, e2⟩
        | tmp m2 =>
          obtain rfl : m2 = m1 := Option.some.inj g1
          refine .inr ⟨rfl, fun P => ?_⟩
          obtain ⟨R1, e1⟩ := Ats.pre h2
          obtain ⟨P0, r0⟩ := h1.rm w (R := R1 ++ R) (by rw [e, e1, List.append_assoc]) g1
          unfold okArgs at ok
          rw [Bool.and_eq_true] at ok
          cases m2 with
          | v d => exact r0
          | ml xs => cases ok.1
          | mll xs => cases ok.1
          | md xs => cases ok.1
          | mt xs => cases ok.1
          | sc xs => cases ok.1
    · cases g
/-- which argument owns an address -/
def calleeO (o : Addr → Option Nat) (ss : List Src) (a : Addr) : Option Nat := match o a with
  | some n => (List.range ss.length).find? fun j => tagAt ss j == some n
  | none => none
theorem calleeO_of {ok : okArgs ss = true} {a : Addr} {j i : Nat} (h : o a = some i) (t : tagAt ss j = some i) (hj : j < ss.length) : calleeO o ss a = some j := by
  unfold calleeO
  rw [h]
  show (List.range ss.length).find? (fun j => tagAt ss j == some i) = some j
  cases e : (List.range ss.length).find? (fun j => tagAt ss j == some i) with
  | none =>
    have := List.find?_eq_none.mp e j (List.mem_range.mpr hj)
    simp [t] at this
  | some k =>
    have := List.find?_some e
    have hk : tagAt ss k = some i := by simpa using this
    rw [tag_inj ok hk t]
theorem calleeO_some {a : Addr} {j : Nat} (h : calleeO o ss a = some j) : ∃ i, o a = some i ∧ tagAt ss j = some i ∧ j < ss.length := by
  unfold calleeO at h
  split at h
  · rename_i n hn
    have h1 := List.find?_some h
    have h2 := List.mem_of_find?_eq_some h
    exact ⟨n, hn, by simpa using h1, List.mem_range.mp h2⟩
  · cases h
open Classical in
noncomputable def calleeG (o : Addr → Option Nat) (ss : List Src) (H : Hp) : Hp := fun a => if (calleeO o ss a).isSome then none else match H a with
  | some (.tbl _) => none
  | x => x
theorem calleeG_some {a : Addr} {u : HO} (h : calleeG o ss H a = some u) : H a = some u ∧ calleeO o ss a = none ∧ ∀ ps, u ≠ .tbl ps := by
  unfold calleeG at h
  split at h
  · cases h
  · rename_i hn
    have e : calleeO o ss a = none := by
      cases q : calleeO o ss a with
      | none => rfl
      | some j => rw [q] at hn; exact absurd rfl hn
    split at h
    · cases h
    · rename_i hne
      exact ⟨h, e, fun ps z => hne ps (by rw [h, z])⟩
theorem calleeG_none {a : Addr} (h : calleeG o ss H a = none) : (∃ j, calleeO o ss a = some j) ∨ H a = none ∨ ∃ ps, H a = some (.tbl ps) := by
  cases q : calleeO o ss a with
  | some j => exact .inl ⟨j, rfl⟩
  | none =>
    refine .inr ?_
    unfold calleeG at h
    rw [q, if_neg (by simp)] at h
    split at h
    · rename_i ps e
      exact .inr ⟨ps, e⟩
    · exact .inl h
theorem Own.callee (w : Own C Z H o σ ρ T') (a1 : Ats σ T T' vs ss) (hg : gets ρ ss = some ms) (ok : okArgs ss = true) :
    Own ⟨Z, calleeG o ss H, vs.length, [], [], C.cls, C.tb, C.Zf⟩ Z H (calleeO o ss) (vs.map some) (ms.map some) [] := by
  refine ⟨w.zh, fun a u e => (calleeG_some e).1, Sub.rfl', fun a u e => .inl e, fun a n e => ?_, fun a n e => ?_, by simp, fun i hi => (by cases hi), fun j m e => ?_, fun j v m e => (by cases e), fun a ps e => (calleeG_some e).2.2 ps rfl, w.tb, fun a n e => (calleeO_some e).elim fun i h => w.oh a i h.1, w.zf, w.zt⟩
  · obtain ⟨i, h1, _⟩ := calleeO_some e
    exact w.oz a i h1
  · show calleeG o ss H a = none
    unfold calleeG
    rw [e]
    rfl
  · have e' : ms[j]? = some m := by
      rw [List.getElem?_map] at e
      cases q : ms[j]? with
      | none => rw [q] at e; cases e
      | some x => rw [q] at e; cases e; rfl
    have hj : j < ss.length := by
      rw [← gets_len hg]
      exact (List.getElem?_eq_some_iff.mp e').1
    obtain ⟨v, h1, h2⟩ := Ats.each a1 w (List.append_nil _).symm hg ok j m e'
    refine ⟨v, by rw [List.getElem?_map, h1]; rfl, ?_⟩
    rcases h2 with ⟨i, t, h3, h4⟩ | ⟨_, h4⟩
    · exact h4.mono Sub.rfl' fun a u _ p q => ⟨calleeO_of (ok := ok) p t hj, q⟩
    · exact h4 _
theorem Own.caller {Z' H' : Hp} {o' : Addr → Option Nat} {ms' : List (Option M)} {R : List (V × M)} (w : Own C Z H o σ ρ T') (a1 : Ats σ T T' vs ss) (hg : gets ρ ss = some ms) (ok : okArgs ss = true)
    (w' : Own ⟨Z, calleeG o ss H, vs.length, [], [], C.cls, C.tb, C.Zf⟩ Z' H' o' (vs.map some) ms' R) (hR : R.length ≤ 1) : ∃ o'', Own C Z' H' o'' σ (back ss ms' ρ) (T ++ R) := by
  obtain ⟨RT, eT⟩ := a1.pre
  have hlen := a1.len
  have wT : Own C Z H o σ ρ T := w.cut eT
  -- what the caller alone owns is guarded
  have mine : ∀ a n, o a = some n → calleeO o ss a = none → ∃ u, H a = some u ∧ calleeG o ss H a = some u ∧ Ownable u := fun a n e hn => by
    obtain ⟨u, h1, h2⟩ := w.oh a n e
    refine ⟨u, h1, ?_, h2⟩
    unfold calleeG
    rw [hn, h1, if_neg (by simp)]
    cases u with
    | tbl ps => exact h2.elim
    | _ => rfl
  obtain ⟨O, hO⟩ : ∃ O : Addr → Option Nat, ∀ a, O a = match o' a with
    | some k => if k = vs.length then some (C.n + T.length) else tagAt ss k
    | none => if (calleeO o ss a).isSome then none else (match o a with | some n => if C.n + T.length ≤ n then none else some n | none => none) := ⟨_, fun a => rfl⟩
  have res : ∀ a, o' a = some vs.length → O a = some (C.n + T.length) := fun a e => by rw [hO, e]; exact if_pos rfl
  have arg : ∀ a k i, o' a = some k → k < vs.length → tagAt ss k = some i → O a = some i := fun a k i e hk t => by
    rw [hO, e]
    show (if k = vs.length then some (C.n + T.length) else tagAt ss k) = some i
    rw [if_neg (by omega)]
    exact t
  have own : ∀ a n, o a = some n → calleeO o ss a = none → n < C.n + T.length → O a = some n ∧ o' a = none := fun a n e hn hlt => by
    obtain ⟨u, h1, h2, h3⟩ := mine a n e hn
    have e2 : o' a = none := by
      cases q : o' a with
      | none => rfl
      | some k =>
        have := w'.og a k q
        rw [show calleeG o ss H a = none from this] at h2
        cases h2
    refine ⟨?_, e2⟩
    rw [hO, e2, hn, e]
    show (if C.n + T.length ≤ n then none else some n) = some n
    exact if_neg (by omega)
  have inv : ∀ a n, O a = some n → (∃ k, o' a = some k) ∨ (∃ n', o a = some n' ∧ calleeO o ss a = none) := fun a n e => by
    rw [hO] at e
    cases q : o' a with
    | some k => exact .inl ⟨k, rfl⟩
    | none =>
      rw [q] at e
      cases q2 : calleeO o ss a with
      | some j => rw [q2] at e; cases e
      | none =>
        cases q3 : o a with
        | none => rw [q2, q3] at e; cases e
        | some n' => exact .inr ⟨n', rfl, rfl⟩
  refine ⟨O, w'.zh, fun a u e => ?_, w.z0.trans w'.z0, fun a u e => ?_, fun a n e => ?_, fun a n e => ?_, w.ln, w.lk, fun i m e => ?_, fun j v m e => ?_, w.gt, w'.tb, fun a n e => ?_, w.zf.trans w'.z0, w'.zt⟩
  · refine w'.gh a u ?_
    have h1 := w.gh a u e
    have h2 : calleeO o ss a = none := by
      cases q : calleeO o ss a with
      | none => rfl
      | some j =>
        obtain ⟨i, h3, _⟩ := calleeO_some q
        rw [w.og a i h3] at e
        cases e
    show calleeG o ss H a = some u
    unfold calleeG
    rw [h2, h1, if_neg (by simp)]
    cases u with
    | tbl ps => exact absurd e (w.gt a ps)
    | _ => rfl
  · rcases w'.zg a u e with h1 | h1
    · exact w.zg a u h1
    · rcases calleeG_none h1 with ⟨j, h2⟩ | h2 | ⟨ps, h2⟩
      · obtain ⟨i, h3, _⟩ := calleeO_some h2
        exact .inr (w.og a i h3)
      · exact .inr (w.gh.none h2)
      · refine .inr ?_
        cases q : C.G a with
        | none => rfl
        | some u' =>
          have := w.gh a u' q
          rw [h2] at this
          cases this
          exact absurd q (w.gt a ps)
  · rcases inv a n e with ⟨k, h⟩ | ⟨n', h, h2⟩
    · exact w'.oz a k h
    · obtain ⟨u, h3, h4, _⟩ := mine a n' h h2
      cases q : Z' a with
      | none => rfl
      | some u' =>
        rcases w'.zg a u' q with h5 | h5
        · have h5 : Z a = some u' := h5
          rw [w.oz a n' h] at h5
          cases h5
        · rw [show calleeG o ss H a = none from h5] at h4
          cases h4
  · rcases inv a n e with ⟨k, h⟩ | ⟨n', h, h2⟩
    · have h1 := w'.og a k h
      rcases calleeG_none h1 with ⟨j, h2⟩ | h2 | ⟨ps, h2⟩
      · obtain ⟨i, h3, _⟩ := calleeO_some h2
        exact w.og a i h3
      · exact w.gh.none h2
      · cases q : C.G a with
        | none => rfl
        | some u' =>
          have := w.gh a u' q
          rw [h2] at this
          cases this
          exact absurd q (w.gt a ps)
    · exact w.og a n' h
  · rcases back_get e with ⟨h1, h2⟩ | ⟨j, h1, h2⟩
    · obtain ⟨v, h3, h4⟩ := w.sl i m h1
      have hi := w.slot_lt h1
      refine ⟨v, h3, h4.mono w'.z0 fun a u _ p q => ?_⟩
      have p : o a = some i := p
      have hn : calleeO o ss a = none := by
        cases q2 : calleeO o ss a with
        | none => rfl
        | some j =>
          obtain ⟨i', e1, e2, _⟩ := calleeO_some q2
          rw [p] at e1
          cases e1
          exact absurd e2 (h2 j)
      obtain ⟨u', e1, e2, _⟩ := mine a i p hn
      rw [q] at e1
      cases e1
      exact ⟨(own a i p hn (by omega)).1, w'.gh a u e2⟩
    · obtain ⟨v, h3, h4⟩ := w'.sl j m h2
      have hj : j < vs.length := by
        rw [List.getElem?_map] at h3
        cases q : vs[j]? with
        | none => rw [q] at h3; cases h3
        | some x => exact (List.getElem?_eq_some_iff.mp q).1
      have hmj : j < ms.length := by rw [gets_len hg, ← hlen]; exact hj
      obtain ⟨v', e1, e2⟩ := Ats.each a1 w (List.append_nil _).symm hg ok j ms[j] (List.getElem?_eq_getElem hmj)
      have ev : v = v' := by
        rw [List.getElem?_map, e1] at h3
        cases h3
        rfl
      subst ev
      rcases e2 with ⟨i', t, e3, _⟩ | ⟨t, _⟩
      · rw [h1] at t
        cases t
        exact ⟨v, e3, h4.mono Sub.rfl' fun a u _ p q => ⟨arg a j i p hj h1, q⟩⟩
      · rw [h1] at t
        cases t
  · by_cases hj : j < T.length
    · rw [List.getElem?_append_left hj] at e
      refine (wT.tp j v m e).mono w'.z0 fun a u _ p q => ?_
      have p : o a = some (C.n + j) := p
      have hn : calleeO o ss a = none := by
        cases q2 : calleeO o ss a with
        | none => rfl
        | some k =>
          obtain ⟨i', e1, e2, e3⟩ := calleeO_some q2
          rw [p] at e1
          cases e1
          have hmk : k < ms.length := by rw [gets_len hg]; exact e3
          obtain ⟨v', _, f2⟩ := Ats.each a1 w (List.append_nil _).symm hg ok k ms[k] (List.getElem?_eq_getElem hmk)
          rcases f2 with ⟨i'', t, f3, _⟩ | ⟨t, _⟩
          · rw [e2] at t
            cases t
            have := (List.getElem?_eq_some_iff.mp f3).1
            rw [w.ln] at this
            omega
          · rw [e2] at t
            cases t
      obtain ⟨u', e1, e2, _⟩ := mine a _ p hn
      rw [q] at e1
      cases e1
      exact ⟨(own a _ p hn (by omega)).1, w'.gh a u e2⟩
    · have hlt := (List.getElem?_eq_some_iff.mp e).1
      rw [List.length_append] at hlt
      have hj2 : j = T.length := by omega
      subst hj2
      rw [List.getElem?_append_right (Nat.le_refl _), Nat.sub_self] at e
      refine (w'.tp 0 v m e).mono Sub.rfl' fun a u _ p q => ⟨res a p, q⟩
  · rcases inv a n e with ⟨k, h⟩ | ⟨n', h, h2⟩
    · exact w'.oh a k h
    · obtain ⟨u, h3, h4, h5⟩ := mine a n' h h2
      exact ⟨u, w'.gh a u h4, h5⟩
end
section
variable {X : Cx} {C : Base} {W : WX} {F : FF} {g : AF} {n : Nat}
theorem tJ_fn {σ : St} {H : Hp} {Q : VK} (k : tJ C W (jFn F g) σ H Q) (hn : ∀ ρ ss ρ', g ρ = .ok ss ρ' → ss.length = n) : tCallSD (spF C.cls n F) [] (fun σ cls d H => W cls d σ H) (tA C W g) σ H Q := by
  obtain ⟨Zb, Z, o, ρ, T, w, k⟩ := k
  refine ⟨Zb, Z, o, ρ, T, w, ?_⟩
  unfold jFn at k
  cases hf : g ρ with
  | stuck => rw [hf] at k; exact k
  | exc c d ρ1 => rw [hf] at k; exact k
  | ok ss ρ1 =>
    rw [hf] at k
    simp only [Res.bind_ok] at k
    intro Z1 H1 o1 vs T1 w1 a1
    cases ok : okArgs ss with
    | false => rw [ok] at k; exact k.elim
    | true =>
      cases hg : gets ρ1 ss with
      | none => rw [ok, hg] at k; exact k.elim
      | some ms =>
        rw [ok, hg] at k
        simp only at k
        rw [List.append_nil]
        refine ⟨by rw [a1.len]; exact hn ρ ss ρ1 hf, Z1, calleeG o1 ss H1, C.tb, C.Zf, _, ms, by rw [gets_len hg, a1.len], w1.callee a1 hg ok, ?_⟩
        cases hF : F ms with
        | stuck => rw [hF] at k; exact k.elim
        | ok m ms' =>
          rw [hF] at k
          intro v Z2 H2 o2 w2
          obtain ⟨o3, w3⟩ := Own.caller w1 a1 hg ok w2 (Nat.le_refl _)
          exact k Z2 H2 o3 v _ w3 rfl
        | exc c d ms' =>
          rw [hF] at k
          intro Z2 H2 o2 cl dx w2 x2
          obtain ⟨o3, w3⟩ := Own.caller w1 a1 hg ok w2 (Nat.zero_le _)
          rw [List.append_nil] at w3
          exact k Z2 H2 o3 cl dx w3 x2
theorem je_fn {f : Addr} {fd : FuncData} {ps : List Str} {x : Str} {p pos : Pos} {e : Expr} {es : List Expr} {k : Nat} (F0 : FnOk X.prog X.w X.K X.mg X.base (L2.CX X.prog X.w) k f fd ps (spF C.cls n F)) (hr : Room k X.A) (hg : Gl X x) (hm : X.mg x = some (.ref f)) (hk : PySem.W.keepIn X.K (.ref f) = true) (hb : Binds X.K fd ps [])
    (tk : Takes X W) (ha : JA X C W (e :: es) g) (hn : ∀ ρ ss ρ', g ρ = .ok ss ρ' → ss.length = n) (hdb : (x == ("__debug__" : Str)) = false := by decide) (he : starEach (e :: es) X.env = (false, eval e X.env) :: starEach es X.env := by rfl) (hpl : (backTo pos (starEach es X.env)).any (·.1) = false := by rfl) :
    JE X C W (.Call (.Name x p) (e :: es) [] pos) (jFn F g) :=
  PE.imp (pe_callSD F0 hr hg hm hk hb .nil (fun σ => passAt tk σ) ha hdb he hpl) fun _ _ _ k => tJ_fn k hn
end
end FW
end

section
set_option Elab.async false
set_option linter.all false
set_option maxRecDepth 100000
set_option autoImplicit false
/-! FW7: operators and comparisons. -/
namespace FW
open PySem PySem.Spec PyProof.Rows L2

/-! ### what stands in the heap now -/
section
variable {cls : Cls} {Z H : Hp} {P : Addr → Prop} {v : V} {m : M} {d : D} {K : PySem.W.Frag}
theorem RM.view (r : RM cls Z H P v m) (hs : Sub Z H) (e : m.asD = some d) : RD cls H v d := r.frozen e hs fun _ _ _ h => h
theorem RM.vdp (r : RM cls Z H P v m) (hs : Sub Z H) (e : m.asD = some d) (c : d.canLay0 = true) : Dp K H v d := (r.view hs e).dp d v c
/-- a list of data that stay: the list itself may be owned -/
def M.lst? : M → Option (List D)
  | .v (.list xs) => some xs
  | .ml xs => some xs
  | _ => none
theorem RM.lst {xs : List D} (r : RM cls Z H P v m) (hs : Sub Z H) (e : m.lst? = some xs) : ∃ a ys, v = .ref a ∧ H a = some (.lst ys) ∧ RDs cls Z ys xs := by
  cases m with
  | v d =>
    cases d with
    | list ds =>
      cases e
      cases r with
      | lst h1 h2 => exact ⟨_, _, rfl, hs _ _ h1, h2⟩
    | _ => cases e
  | ml ys =>
    cases e
    obtain ⟨a, zs, rfl, _, h1, h2⟩ := r
    exact ⟨a, zs, rfl, h1, h2⟩
  | _ => cases e
theorem RD.tupOf {xs : List D} (r : RD cls Z v (.tuple xs)) : ∃ a ys, v = .ref a ∧ Z a = some (.tup ys) ∧ RDs cls Z ys xs := by
  cases r with
  | tup h1 h2 => exact ⟨_, _, rfl, h1, h2⟩
end
theorem shp_lay {d : D} (h : SeqAt.shaped d = true) : d.canLay0 = true := by
  unfold SeqAt.shaped at h
  rw [Bool.and_eq_true] at h
  exact h.1
theorem shp_depth {d : D} (h : SeqAt.shaped d = true) : d.depth ≤ 64 := by
  unfold SeqAt.shaped at h
  rw [Bool.and_eq_true] at h
  exact of_decide_eq_true h.2

/-! ### comparisons of data -/
section
variable {X : Cx}
def rCmpD (K : PySem.W.Frag) (g : D → D → Bool) : R2 := fun x y H Q => ∃ d e, Dp K H x d ∧ Dp K H y e ∧ W.alike d e = true ∧ d ≠ .none ∧ d.depth ≤ 64 ∧ Q (.bl (g d e)) H
theorem op_ltD (hu : X.A.units + 64 < cLine) : OpR X (compareOp .Lt) (rCmpD X.K fun d e => W.dataLt d e) := by
  intro pins s σ H x y v u Q I rx ry h
  obtain ⟨d, e, hd, he, ha, hn, hz, q⟩ := h
  obtain ⟨as, r1⟩ := Dp.reads I d x v hd rx
  obtain ⟨bs, r2⟩ := Dp.reads I e y u he ry
  exact W.lt_data r1 r2 ha hn (by omega) ⟨.bl _, H, I, rfl, q⟩
theorem op_gtD (hu : X.A.units + 64 < cLine) : OpR X (compareOp .Gt) (rCmpD X.K fun d e => W.dataLt e d) := by
  intro pins s σ H x y v u Q I rx ry h
  obtain ⟨d, e, hd, he, ha, hn, hz, q⟩ := h
  obtain ⟨as, r1⟩ := Dp.reads I d x v hd rx
  obtain ⟨bs, r2⟩ := Dp.reads I e y u he ry
  exact W.gt_data r1 r2 ha hn (by omega) ⟨.bl _, H, I, rfl, q⟩
theorem op_leD (hu : X.A.units + 64 < cLine) : OpR X (compareOp .LtE) (rCmpD X.K fun d e => !W.dataLt e d) := by
  intro pins s σ H x y v u Q I rx ry h
  obtain ⟨d, e, hd, he, ha, hn, hz, q⟩ := h
  obtain ⟨as, r1⟩ := Dp.reads I d x v hd rx
  obtain ⟨bs, r2⟩ := Dp.reads I e y u he ry
  exact W.le_data r1 r2 ha hn (by omega) ⟨.bl _, H, I, rfl, q⟩
theorem op_geD (hu : X.A.units + 64 < cLine) : OpR X (compareOp .GtE) (rCmpD X.K fun d e => !W.dataLt d e) := by
  intro pins s σ H x y v u Q I rx ry h
  obtain ⟨d, e, hd, he, ha, hn, hz, q⟩ := h
  obtain ⟨as, r1⟩ := Dp.reads I d x v hd rx
  obtain ⟨bs, r2⟩ := Dp.reads I e y u he ry
  exact W.ge_data r1 r2 ha hn (by omega) ⟨.bl _, H, I, rfl, q⟩
/-- x in t, t a tuple -/
def rInT (K : PySem.W.Frag) (neg : Bool) : R2 := fun x y H Q => ∃ d ds, Dp K H x d ∧ Dp K H y (.tuple ds) ∧ SeqAt.shaped d = true ∧ SeqAt.shaped (.tuple ds) = true ∧ Q (.bl (if neg then !ds.any fun z => PyData.eqv z d else ds.any fun z => PyData.eqv z d)) H
theorem op_inT (hu : X.A.units + 65 < cLine) : OpR X (compareOp .In) (rInT X.K false) := by
  intro pins s σ H x y v u Q I rx ry h
  obtain ⟨d, ds, hd, he, sd, se, q⟩ := h
  obtain ⟨as, r1⟩ := Dp.reads I d x v hd rx
  obtain ⟨bs, r2⟩ := Dp.reads I (.tuple ds) y u he ry
  exact SeqAt.in_tuple_reads r2 r1 (SeqAt.canLay_of_shaped se) (SeqAt.canLay_of_shaped sd) (room_in_shaped sd hu) ⟨.bl _, H, I, rfl, q⟩
theorem op_notInT (hu : X.A.units + 65 < cLine) : OpR X (compareOp .NotIn) (rInT X.K true) := by
  intro pins s σ H x y v u Q I rx ry h
  obtain ⟨d, ds, hd, he, sd, se, q⟩ := h
  obtain ⟨as, r1⟩ := Dp.reads I d x v hd rx
  obtain ⟨bs, r2⟩ := Dp.reads I (.tuple ds) y u he ry
  exact SeqAt.notIn_tuple_reads r2 r1 (SeqAt.canLay_of_shaped se) (SeqAt.canLay_of_shaped sd) (room_in_shaped sd hu) ⟨.bl _, H, I, rfl, q⟩
end
def both (a b : M) (F : D → D → Option Bool) : Option M := match a.asD, b.asD with
  | some d, some e => (F d e).map fun k => .v (.bool k)
  | _, _ => none
def eqD (d e : D) : Option Bool := if SeqAt.shaped d && SeqAt.shaped e then some (PyData.eqv d e) else none
def ordD (g : D → D → Bool) (d e : D) : Option Bool := match d with
  | .none => none
  | _ => if SeqAt.shaped d && e.canLay0 && W.alike d e then some (g d e) else none
def mEq (a b : M) : Option M := both a b eqD
def mNe (a b : M) : Option M := both a b fun d e => (eqD d e).map (!·)
def mLt (a b : M) : Option M := both a b (ordD fun d e => W.dataLt d e)
def mGt (a b : M) : Option M := both a b (ordD fun d e => W.dataLt e d)
def mLe (a b : M) : Option M := both a b (ordD fun d e => !W.dataLt e d)
def mGe (a b : M) : Option M := both a b (ordD fun d e => !W.dataLt d e)
section
variable {cls : Cls} {K : PySem.W.Frag}
theorem give_bool {Z H : Hp} {Q : VK} {k : Bool} (hs : Sub Z H) (q : Give cls Z H (.v (.bool k)) Q) : Q (.bl k) H := give_v hs (.bl k) q
theorem give_int {Z H : Hp} {Q : VK} {k : Int} (hs : Sub Z H) (q : Give cls Z H (.v (.int k)) Q) : Q (.int k) H := give_v hs (.int k) q
theorem give_str {Z H : Hp} {Q : VK} {k : Str} (hs : Sub Z H) (q : Give cls Z H (.v (.str k)) Q) : Q (.str k) H := give_v hs (.str k) q
theorem both_some {a b m : M} {F : D → D → Option Bool} (h : both a b F = some m) : ∃ d e k, a.asD = some d ∧ b.asD = some e ∧ F d e = some k ∧ m = .v (.bool k) := by
  unfold both at h
  split at h
  · rename_i d e h1 h2
    cases hF : F d e with
    | none => rw [hF] at h; cases h
    | some k =>
      rw [hF] at h
      cases h
      exact ⟨d, e, k, h1, h2, hF, rfl⟩
  · cases h
theorem eqD_some {d e : D} {k : Bool} (h : eqD d e = some k) : SeqAt.shaped d = true ∧ SeqAt.shaped e = true ∧ k = PyData.eqv d e := by
  unfold eqD at h
  split at h
  · rename_i c
    rw [Bool.and_eq_true] at c
    cases h
    exact ⟨c.1, c.2, rfl⟩
  · cases h
theorem os_eq : OpS cls (rEqD K) mEq := by
  intro Z H x y a b m P P' Q hs r1 r2 h q
  obtain ⟨d, e, k, h1, h2, h3, rfl⟩ := both_some h
  obtain ⟨s1, s2, rfl⟩ := eqD_some h3
  exact ⟨d, e, r1.vdp hs h1 (shp_lay s1), r2.vdp hs h2 (shp_lay s2), s1, s2, give_bool hs q⟩
theorem os_ne : OpS cls (rNeD K) mNe := by
  intro Z H x y a b m P P' Q hs r1 r2 h q
  obtain ⟨d, e, k, h1, h2, h3, rfl⟩ := both_some h
  cases h4 : eqD d e with
  | none => rw [h4] at h3; cases h3
  | some k' =>
    rw [h4] at h3
    cases h3
    obtain ⟨s1, s2, rfl⟩ := eqD_some h4
    exact ⟨d, e, r1.vdp hs h1 (shp_lay s1), r2.vdp hs h2 (shp_lay s2), s1, s2, give_bool hs q⟩
theorem os_ord {g : D → D → Bool} : OpS cls (rCmpD K g) fun a b => both a b (ordD g) := by
  intro Z H x y a b m P P' Q hs r1 r2 h q
  obtain ⟨d, e, k, h1, h2, h3, rfl⟩ := both_some h
  have : d ≠ .none ∧ SeqAt.shaped d = true ∧ e.canLay0 = true ∧ W.alike d e = true ∧ k = g d e := by
    unfold ordD at h3
    split at h3
    · cases h3
    · rename_i hn
      split at h3
      · rename_i c
        rw [Bool.and_eq_true, Bool.and_eq_true] at c
        cases h3
        exact ⟨fun z => hn z, c.1.1, c.1.2, c.2, rfl⟩
      · cases h3
  obtain ⟨hn, s1, s2, ha, rfl⟩ := this
  exact ⟨d, e, r1.vdp hs h1 (shp_lay s1), r2.vdp hs h2 s2, ha, hn, shp_depth s1, give_bool hs q⟩
/-- x is None -/
def isNo : M → Bool
  | .v .none => true
  | _ => false
def mIsN (a b : M) : Option M := match b with
  | .v .none => some (.v (.bool (isNo a)))
  | _ => none
def mNotN (a b : M) : Option M := match b with
  | .v .none => some (.v (.bool (!isNo a)))
  | _ => none
theorem isN_iff {Z H : Hp} {P : Addr → Prop} {x : V} {a : M} (r : RM cls Z H P x a) : decide (x = .non) = isNo a := by
  cases a with
  | v d => cases r <;> rfl
  | ml xs => obtain ⟨_, _, rfl, _⟩ := r; rfl
  | mll xs => obtain ⟨_, _, rfl, _⟩ := r; rfl
  | md xs => obtain ⟨_, _, rfl, _⟩ := r; rfl
  | mt xs => obtain ⟨_, _, rfl, _⟩ := r; rfl
  | sc xs => obtain ⟨_, rfl, _⟩ := r; rfl
theorem os_isN : OpS cls (fun x y H Q => y = .non ∧ Q (.bl (decide (x = .non))) H) mIsN := by
  intro Z H x y a b m P P' Q hs r1 r2 h q
  unfold mIsN at h
  split at h
  · cases h
    refine ⟨rd_none r2, ?_⟩
    rw [isN_iff r1]
    exact give_bool hs q
  · cases h
theorem os_notN : OpS cls (fun x y H Q => y = .non ∧ Q (.bl (!decide (x = .non))) H) mNotN := by
  intro Z H x y a b m P P' Q hs r1 r2 h q
  unfold mNotN at h
  split at h
  · cases h
    refine ⟨rd_none r2, ?_⟩
    rw [isN_iff r1]
    exact give_bool hs q
  · cases h
/-- x in xs -/
def memD (d : D) (ds : List D) : Bool := ds.any fun z => PyData.eqv z d
def mIn (neg : Bool) (a b : M) : Option M := match a.asD, b.asD with
  | some d, some (.list ds) => if SeqAt.shaped d && SeqAt.shaped (.list ds) then some (.v (.bool (if neg then !memD d ds else memD d ds))) else none
  | some d, some (.tuple ds) => if SeqAt.shaped d && SeqAt.shaped (.tuple ds) then some (.v (.bool (if neg then !memD d ds else memD d ds))) else none
  | _, _ => none
end
section
variable {X : Cx} {cls : Cls}
def rInA (K : PySem.W.Frag) (neg : Bool) : R2 := fun x y H Q => (if neg then rNotInD K else rInD K) x y H Q ∨ rInT K neg x y H Q
theorem op_inA (hu : X.A.units + 65 < cLine) : OpR X (compareOp .In) (rInA X.K false) := (op_inD hu).or (op_inT hu)
theorem op_notInA (hu : X.A.units + 65 < cLine) : OpR X (compareOp .NotIn) (rInA X.K true) := (op_notInD hu).or (op_notInT hu)
theorem os_in {K : PySem.W.Frag} {neg : Bool} : OpS cls (rInA K neg) (mIn neg) := by
  intro Z H x y a b m P P' Q hs r1 r2 h q
  unfold mIn at h
  split at h
  · rename_i d ds h1 h2
    split at h
    · rename_i c
      rw [Bool.and_eq_true] at c
      cases h
      refine .inl ?_
      have q' := give_bool hs q
      cases neg with
      | false => exact ⟨d, ds, r1.vdp hs h1 (shp_lay c.1), r2.vdp hs h2 (shp_lay c.2), c.1, c.2, q'⟩
      | true => exact ⟨d, ds, r1.vdp hs h1 (shp_lay c.1), r2.vdp hs h2 (shp_lay c.2), c.1, c.2, q'⟩
    · cases h
  · rename_i d ds h1 h2
    split at h
    · rename_i c
      rw [Bool.and_eq_true] at c
      cases h
      exact .inr ⟨d, ds, r1.vdp hs h1 (shp_lay c.1), r2.vdp hs h2 (shp_lay c.2), c.1, c.2, give_bool hs q⟩
    · cases h
  · cases h

/-! ### arithmetic -/
def rAddA (K : PySem.W.Frag) : R2 := fun x y H Q => rI0 (fun i j => .int (i + j)) x y H Q ∨ (∃ i j, x = .str i ∧ y = .str j ∧ i.length + j.length ≤ sizeLine ∧ Q (.str (i ++ j)) H) ∨ rCat x y H Q ∨ rCatA K x y H Q
theorem op_addA : OpR X (binaryOp .Add) (rAddA X.K) := op_add.or (op_add_str.or (op_cat.or op_catA))
def mAdd (a b : M) : Option M := match a, b with
  | .v (.int i), .v (.int j) => some (.v (.int (i + j)))
  | .v (.str i), .v (.str j) => if sizeOk (i.length + j.length) then some (.v (.str (i ++ j))) else none
  | .v (.tuple xs), .v (.tuple ys) => if sizeOk (xs.length + ys.length) then some (.v (.tuple (xs ++ ys))) else none
  | a, b => match a.lst?, b.lst? with
    | some xs, some ys => if sizeOk (xs.length + ys.length) then some (.ml (xs ++ ys)) else none
    | _, _ => none
theorem give_tup {cls : Cls} {Z H : Hp} {Q : VK} {vs : List V} {ds : List D} {p : Addr} (hs : Sub Z H) (r : RDs cls Z vs ds) (hp : H p = none) (q : Give cls Z H (.v (.tuple ds)) Q) : Q (.ref p) (upd H p (.tup vs)) := by
  refine q (.ref p) (upd Z p (.tup vs)) _ (Sub.new (hs.none hp)) (Sub.new hp) hs.upd (fun a u e => ?_) (.tup upd_same ((Sub.new (hs.none hp)).dps _ _ r))
  by_cases ha : a = p
  · subst ha; rw [upd_same] at e; cases e; exact .inr ⟨hp, fun ps z => nomatch z⟩
  · rw [upd_ne ha] at e; exact .inl e
theorem os_add {K : PySem.W.Frag} : OpS cls (rAddA K) mAdd := by
  intro Z H x y a b m P P' Q hs r1 r2 h q
  have lists : ∀ xs ys, a.lst? = some xs → b.lst? = some ys → (if sizeOk (xs.length + ys.length) then some (M.ml (xs ++ ys)) else none) = some m → rAddA K x y H Q := fun xs ys e1 e2 h => by
    split at h
    · rename_i hz
      cases h
      obtain ⟨l, us, rfl, h1, h2⟩ := r1.lst hs e1
      obtain ⟨l', us', rfl, h1', h2'⟩ := r2.lst hs e2
      exact .inr (.inr (.inl ⟨l, l', us, us', rfl, rfl, h1, h1', by rw [h2.length, h2'.length]; exact sizeOk_le hz, fun p hp => give_ml hs (h2.append h2') hp q⟩))
    · cases h
  unfold mAdd at h
  split at h
  · cases h
    obtain rfl := rd_int r1
    obtain rfl := rd_int r2
    exact .inl ⟨_, _, rfl, rfl, give_int hs q⟩
  · split at h
    · rename_i hz
      cases h
      obtain rfl := rd_str r1
      obtain rfl := rd_str r2
      exact .inr (.inl ⟨_, _, rfl, rfl, sizeOk_le hz, give_str hs q⟩)
    · cases h
  · split at h
    · rename_i xs ys hz
      cases h
      obtain ⟨l, us, rfl, h1, h2⟩ := RD.tupOf r1
      obtain ⟨l', us', rfl, h1', h2'⟩ := RD.tupOf r2
      refine .inr (.inr (.inr ⟨l, l', us, us', rfl, rfl, .inl (.inl (hs _ _ h1)), .inl (.inl (hs _ _ h1')), by rw [h2.length, h2'.length]; exact sizeOk_le hz, fun e => ?_, fun _ e => ?_, fun _ _ p hp => give_tup hs (h2.append h2') hp q⟩))
      · subst e
        have := h2.nils
        subst this
        exact give_v hs (.tup h1' h2') q
      · subst e
        have := h2'.nils
        subst this
        rw [List.append_nil] at q
        exact give_v hs (.tup h1 h2) q
    · cases h
  · split at h
    · rename_i xs ys e1 e2
      exact lists xs ys e1 e2 h
    · cases h
def mSub (a b : M) : Option M := match a, b with
  | .v (.int i), .v (.int j) => some (.v (.int (i - j)))
  | _, _ => none
theorem os_sub : OpS cls (rI0 fun i j => .int (i - j)) mSub := by
  intro Z H x y a b m P P' Q hs r1 r2 h q
  unfold mSub at h
  split at h
  · cases h
    exact ⟨_, _, rd_int r1, rd_int r2, give_int hs q⟩
  · cases h
def mulOk (i j : Int) : Bool := (decide (-(2 ^ 64) < i) && decide (i < 2 ^ 64)) || (decide (-(2 ^ 64) < j) && decide (j < 2 ^ 64)) || decide (i.natAbs.log2 + j.natAbs.log2 < 1000000)
def mMul (a b : M) : Option M := match a, b with
  | .v (.int i), .v (.int j) => if mulOk i j then some (.v (.int (i * j))) else none
  | .v (.tuple xs), .v (.int k) => if !xs.isEmpty && decide (2 ≤ k) && decide (k ≤ 1000) && decide (xs.length ≤ 1000) then some (.v (.tuple (List.replicate k.toNat xs).flatten)) else none
  | .v (.str x), .v (.int k) => if decide (-1000 ≤ k) && decide (k ≤ 1000) && decide (x.length ≤ 10000) then some (.v (.str (Txt.mul x k))) else none
  | a, .v (.int k) => match a.lst? with
    | some xs => if decide (-1000 ≤ k) && decide (k ≤ 1000) && decide (xs.length ≤ 1000) then some (.ml (List.replicate k.toNat xs).flatten) else none
    | none => none
  | _, _ => none
def rStrRep : R2 := fun x y H Q => ∃ i k, x = .str i ∧ y = .int k ∧ -1000 ≤ k ∧ k ≤ 1000 ∧ i.length ≤ 10000 ∧ Q (.str (Txt.mul i k)) H
theorem op_strRep : OpR X (binaryOp .Mult) rStrRep := by
  intro pins s σ H x y v u Q I rx ry h
  obtain ⟨i, k, rfl, rfl, h1, h2, h3, q⟩ := h
  obtain ⟨t, rfl⟩ := rx
  obtain ⟨t2, rfl⟩ := ry
  exact SB.mul (mulOk_of 10000 1000 h3 h2 (by omega) (by decide) (by decide)) fun t' tk => ⟨.str (Txt.mul i k), H, I.tok _, ⟨_, rfl⟩, q⟩
def rMulA (K : PySem.W.Frag) : R2 := fun x y H Q => rI CMul (fun i j => .int (i * j)) x y H Q ∨ rI CMulW (fun i j => .int (i * j)) x y H Q ∨ rRep x y H Q ∨ rRepT K x y H Q ∨ rStrRep x y H Q
theorem op_mulA : OpR X (binaryOp .Mult) (rMulA X.K) := op_mul.or (op_mulW.or (op_rep.or (op_repT.or op_strRep)))
theorem os_mul {K : PySem.W.Frag} : OpS cls (rMulA K) mMul := by
  intro Z H x y a b m P P' Q hs r1 r2 h q
  unfold mMul at h
  split at h
  · split at h
    · rename_i i j hz
      cases h
      obtain rfl := rd_int r1
      obtain rfl := rd_int r2
      unfold mulOk at hz
      simp only [Bool.or_eq_true, Bool.and_eq_true, decide_eq_true_eq] at hz
      rcases hz with (hz | hz) | hz
      · exact .inl ⟨i, j, rfl, rfl, .inl hz, give_int hs q⟩
      · exact .inl ⟨i, j, rfl, rfl, .inr hz, give_int hs q⟩
      · exact .inr (.inl ⟨i, j, rfl, rfl, hz, give_int hs q⟩)
    · cases h
  · rename_i xs k
    split at h
    · rename_i hz
      cases h
      simp only [Bool.and_eq_true, decide_eq_true_eq] at hz
      obtain ⟨⟨⟨h0, h3⟩, h4⟩, h5⟩ := hz
      obtain ⟨l, us, rfl, h1, h2⟩ := RD.tupOf r1
      obtain rfl := rd_int r2
      refine .inr (.inr (.inr (.inl ⟨l, k, us, rfl, rfl, .inl (.inl (hs _ _ h1)), fun e => ?_, h3, h4, by rw [h2.length]; exact h5, fun p hp => give_tup hs (h2.rep _) hp q⟩)))
      subst e
      rw [h2.nils] at h0
      cases h0
    · cases h
  · split at h
    · rename_i x k hz
      cases h
      simp only [Bool.and_eq_true, decide_eq_true_eq] at hz
      obtain rfl := rd_str r1
      obtain rfl := rd_int r2
      exact .inr (.inr (.inr (.inr ⟨x, k, rfl, rfl, hz.1.1, hz.1.2, hz.2, give_str hs q⟩)))
    · cases h
  · rename_i k _ _ _
    split at h
    · rename_i xs e
      split at h
      · rename_i hz
        cases h
        simp only [Bool.and_eq_true, decide_eq_true_eq] at hz
        obtain ⟨⟨h3, h4⟩, h5⟩ := hz
        obtain ⟨l, us, rfl, h1, h2⟩ := r1.lst hs e
        obtain rfl := rd_int r2
        refine .inr (.inr (.inl ⟨l, k, us, rfl, rfl, h1, by omega, by omega, ?_, fun p hp => give_ml hs (h2.rep _) hp q⟩))
        rw [h2.length, sizeLine_eq]
        have : xs.length * k.toNat ≤ 1000 * 1000 := Nat.mul_le_mul h5 (by omega)
        omega
      · cases h
    · cases h
  · cases h
def mDiv (a b : M) : Option M := match a, b with
  | .v (.int i), .v (.int j) => if decide (0 < j) && (decide (j < 1073741824) || decide (j.natAbs.log2 < 9000)) then some (.v (.int (i / j))) else none
  | _, _ => none
def rDivA : R2 := fun x y H Q => rI CDiv (fun i j => .int (i / j)) x y H Q ∨ rI CDivW (fun i j => .int (i / j)) x y H Q
theorem op_divA : OpR X (binaryOp .FloorDiv) rDivA := op_fdiv.or op_fdivW
theorem os_div : OpS cls rDivA mDiv := by
  intro Z H x y a b m P P' Q hs r1 r2 h q
  unfold mDiv at h
  split at h
  · split at h
    · rename_i i j hz
      cases h
      simp only [Bool.and_eq_true, Bool.or_eq_true, decide_eq_true_eq] at hz
      rcases hz.2 with h2 | h2
      · exact .inl ⟨i, j, rd_int r1, rd_int r2, ⟨hz.1, h2⟩, give_int hs q⟩
      · exact .inr ⟨i, j, rd_int r1, rd_int r2, ⟨hz.1, h2⟩, give_int hs q⟩
    · cases h
  · cases h
def mMod (a b : M) : Option M := match a, b with
  | .v (.int i), .v (.int j) => if decide (0 < j) then some (.v (.int (i % j))) else none
  | _, _ => none
theorem os_mod : OpS cls (rI (fun _ j => 0 < j) fun i j => .int (i % j)) mMod := by
  intro Z H x y a b m P P' Q hs r1 r2 h q
  unfold mMod at h
  split at h
  · split at h
    · rename_i i j hz
      cases h
      exact ⟨i, j, rd_int r1, rd_int r2, of_decide_eq_true hz, give_int hs q⟩
    · cases h
  · cases h
def CPowW (i j : Int) : Prop := 0 ≤ j ∧ (Builtin.Int.intBits i : Int) * j ≤ 2 ^ 27
theorem op_powA : OpR X (binaryOp .Pow) (rI CPowW fun i j => .int (i ^ j.toNat)) := opI fun _ _ _ _ _ _ _ hc q => pow_int hc.1 hc.2 q
def mPow (a b : M) : Option M := match a, b with
  | .v (.int i), .v (.int j) => if decide (0 ≤ j) && decide ((Builtin.Int.intBits i : Int) * j ≤ 2 ^ 27) then some (.v (.int (i ^ j.toNat))) else none
  | _, _ => none
theorem os_pow : OpS cls (rI CPowW fun i j => .int (i ^ j.toNat)) mPow := by
  intro Z H x y a b m P P' Q hs r1 r2 h q
  unfold mPow at h
  split at h
  · split at h
    · rename_i i j hz
      cases h
      simp only [Bool.and_eq_true, decide_eq_true_eq] at hz
      exact ⟨i, j, rd_int r1, rd_int r2, hz, give_int hs q⟩
    · cases h
  · cases h
def mNeg : M → Option M
  | .v (.int i) => some (.v (.int (-i)))
  | _ => none
theorem us_neg : UnS cls (rU fun i => .int (-i)) mNeg := by
  intro Z H x a m P Q hs r1 h q
  unfold mNeg at h
  split at h
  · cases h
    exact ⟨_, rd_int r1, give_int hs q⟩
  · cases h

/-! ### items, slices -/
def mIx (a b : M) : Option M := match b with
  | .v (.int i) => match a with
    | .v (.str s) => if sizeOk s.length then (atI s.cps.toList i).map fun c => .v (.str ⟨#[c]⟩) else none
    | .v (.tuple xs) => (atI xs i).map .v
    | a => match a.lst? with
      | some xs => (atI xs i).map .v
      | none => none
  | _ => none
theorem RDs.at {cls : Cls} {Z : Hp} {vs : List V} {ds : List D} {i : Int} {d : D} (r : RDs cls Z vs ds) (h : atI ds i = some d) : ∃ v, atI vs i = some v ∧ RD cls Z v d := by
  unfold atI at h ⊢
  rw [r.length]
  cases e : ixN ds.length i with
  | none => rw [e] at h; cases h
  | some j =>
    rw [e] at h
    exact r.get h
theorem os_ix {K : PySem.W.Frag} : OpS cls (rIx K) mIx := by
  intro Z H x y a b m P P' Q hs r1 r2 h q
  unfold mIx at h
  split at h
  · rename_i i
    obtain rfl := rd_int r2
    split at h
    · rename_i z
      obtain rfl := rd_str r1
      split at h
      · rename_i hz
        cases e : atI z.cps.toList i with
        | none => rw [e] at h; cases h
        | some c =>
          rw [e] at h
          cases h
          exact .inr (.inr ⟨z, i, c, rfl, rfl, sizeOk_le hz, e, give_str hs q⟩)
      · cases h
    · rename_i xs
      obtain ⟨l, us, rfl, h1, h2⟩ := RD.tupOf r1
      cases e : atI xs i with
      | none => rw [e] at h; cases h
      | some d =>
        rw [e] at h
        cases h
        obtain ⟨v, e2, r⟩ := RDs.at h2 e
        exact .inr (.inl ⟨l, us, i, v, rfl, rfl, .inl (.inl (hs _ _ h1)), e2, give_v hs r q⟩)
    · split at h
      · rename_i xs e1
        obtain ⟨l, us, rfl, h1, h2⟩ := r1.lst hs e1
        cases e : atI xs i with
        | none => rw [e] at h; cases h
        | some d =>
          rw [e] at h
          cases h
          obtain ⟨v, e2, r⟩ := RDs.at h2 e
          exact .inl ⟨l, us, i, v, rfl, rfl, .inl (.inl h1), e2, give_v hs r q⟩
      · cases h
  · cases h
end
end FW
end

section
set_option Elab.async false
set_option linter.all false
set_option maxRecDepth 100000
set_option autoImplicit false
/-! FW8: built-ins. -/
namespace FW
open PySem PySem.Spec PyProof.Rows L2

/-! ### len, sum -/
def mLen : List M → Option M
  | [.v (.str s)] => if sizeOk s.length then some (.v (.int s.length)) else none
  | [.v (.tuple xs)] => some (.v (.int xs.length))
  | [.v (.list xs)] => some (.v (.int xs.length))
  | [.ml xs] => some (.v (.int xs.length))
  | [.mll xs] => some (.v (.int xs.length))
  | [.sc xs] => some (.v (.int xs.length))
  | _ => none
def tyInt : D := .int 0
section
variable {cls : Cls}
theorem cs_len {K : PySem.W.Frag} (hK : cls.K = K := by rfl) : CallS cls (fun xs H Q => ∃ x n, xs = [x] ∧ LenV K x H n ∧ Q (.int n) H) mLen := by
  intro Z H vs ms m Q hs r h q
  unfold mLen at h
  split at h
  · rename_i s
    split at h
    · rename_i hz
      cases h
      obtain ⟨v, P, rfl, r1⟩ := r.one
      obtain rfl := rd_str r1
      exact ⟨_, _, rfl, ⟨sizeOk_le hz, rfl⟩, give_int hs q⟩
    · cases h
  · cases h
    obtain ⟨v, P, rfl, r1⟩ := r.one
    obtain ⟨a, us, rfl, h1, h2⟩ := RD.tupOf r1
    exact ⟨_, _, rfl, .inr ⟨us, .inl (.inl (hs _ _ h1)), h2.length.symm⟩, give_int hs q⟩
  · cases h
    obtain ⟨v, P, rfl, r1⟩ := r.one
    obtain ⟨a, us, rfl, h1, h2⟩ := r1.lst hs rfl
    exact ⟨_, _, rfl, .inl ⟨us, .inl (.inl h1), h2.length.symm⟩, give_int hs q⟩
  · cases h
    obtain ⟨v, P, rfl, r1⟩ := r.one
    obtain ⟨a, us, rfl, h1, h2⟩ := r1.lst hs rfl
    exact ⟨_, _, rfl, .inl ⟨us, .inl (.inl h1), h2.length.symm⟩, give_int hs q⟩
  · cases h
    obtain ⟨v, P, rfl, r1⟩ := r.one
    obtain ⟨a, as, rfl, _, h1, _, _, h2⟩ := r1
    exact ⟨_, _, rfl, .inl ⟨_, .inl (.inl h1), by rw [List.length_map]; exact h2.length.symm⟩, give_int hs q⟩
  · cases h
    obtain ⟨v, P, rfl, r1⟩ := r.one
    obtain ⟨a, rfl, h1⟩ := r1
    exact ⟨_, _, rfl, .inl ⟨_, by rw [← hK]; exact hs.sq h1, by rw [List.length_map]⟩, give_int hs q⟩
  · cases h
/-- all of them ints -/
def intsOf : List D → Option (List Int)
  | [] => some []
  | .int i :: r => (intsOf r).map (i :: ·)
  | _ => none
theorem intsOf_eq : ∀ {ds : List D} {ns : List Int}, intsOf ds = some ns → ds = ns.map .int
  | [], ns, h => by cases h; rfl
  | d :: ds, ns, h => by
    cases d with
    | int i =>
      unfold intsOf at h
      cases e : intsOf ds with
      | none => rw [e] at h; cases h
      | some r =>
        rw [e] at h
        cases h
        rw [intsOf_eq e]
        rfl
    | _ => cases h
theorem RDs.ints {Z : Hp} : ∀ {ns : List Int} {vs : List V}, RDs cls Z vs (ns.map .int) → vs = ns.map V.int
  | [], vs, h => by cases h; rfl
  | n :: ns, vs, h => by
    cases h with
    | cons h1 h2 =>
      rw [rd_int h1, RDs.ints h2]
      rfl
def mSum : List M → Option M
  | [.sc ns] => some (.v (.int ns.sum))
  | [m] => match m.lst? with
    | some ds => match intsOf ds with
      | some ns => some (.v (.int ns.sum))
      | none => none
    | none => none
  | _ => none
theorem cs_sum {K : PySem.W.Frag} (hK : cls.K = K := by rfl) : CallS cls (rSum K) mSum := by
  intro Z H vs ms m Q hs r h q
  unfold mSum at h
  split at h
  · rename_i ns
    cases h
    obtain ⟨v, P, rfl, r1⟩ := r.one
    obtain ⟨a, rfl, h1⟩ := r1
    exact ⟨a, ns, rfl, by rw [← hK]; exact hs.sq h1, give_int hs q⟩
  · split at h
    · rename_i ds e
      split at h
      · rename_i ns e2
        cases h
        obtain ⟨v, P, rfl, r1⟩ := r.one
        obtain ⟨a, us, rfl, h1, h2⟩ := r1.lst hs e
        rw [intsOf_eq e2] at h2
        rw [h2.ints] at h1
        exact ⟨a, ns, rfl, .inl (.inl h1), give_int hs q⟩
      · cases h
    · cases h
  · cases h
/-- all of them bools -/
def boolsOf : List D → Option (List Bool)
  | [] => some []
  | .bool i :: r => (boolsOf r).map (i :: ·)
  | _ => none
theorem boolsOf_eq : ∀ {ds : List D} {ns : List Bool}, boolsOf ds = some ns → ds = ns.map .bool
  | [], ns, h => by cases h; rfl
  | d :: ds, ns, h => by
    cases d with
    | bool i =>
      unfold boolsOf at h
      cases e : boolsOf ds with
      | none => rw [e] at h; cases h
      | some r =>
        rw [e] at h
        cases h
        rw [boolsOf_eq e]
        rfl
    | _ => cases h
theorem RDs.bools {Z : Hp} : ∀ {ns : List Bool} {vs : List V}, RDs cls Z vs (ns.map .bool) → vs = ns.map V.bl
  | [], vs, h => by cases h; rfl
  | n :: ns, vs, h => by
    cases h with
    | cons h1 h2 =>
      rw [dp_bool h1, RDs.bools h2]
      rfl
def mAll : List M → Option M
  | [m] => ((m.lst?).bind boolsOf).map fun bs => .v (.bool (bs.all id))
  | _ => none
def mAny : List M → Option M
  | [m] => ((m.lst?).bind boolsOf).map fun bs => .v (.bool (bs.any id))
  | _ => none
theorem bools_of {Z H : Hp} {vs : List V} {m : M} {bs : List Bool} (hs : Sub Z H) (r : RMs cls Z H vs [m]) (h : (m.lst?).bind boolsOf = some bs) : ∃ a, vs = [.ref a] ∧ H a = some (.lst (bs.map V.bl)) := by
  cases e : m.lst? with
  | none => rw [e] at h; cases h
  | some ds =>
    rw [e] at h
    obtain ⟨v, P, rfl, r1⟩ := r.one
    obtain ⟨a, us, rfl, h1, h2⟩ := r1.lst hs e
    rw [boolsOf_eq (show boolsOf ds = some bs from h)] at h2
    rw [h2.bools] at h1
    exact ⟨a, rfl, h1⟩
theorem cs_all {K : PySem.W.Frag} : CallS cls (rAll K) mAll := by
  intro Z H vs ms m Q hs r h q
  unfold mAll at h
  split at h
  · rename_i m0
    cases e : (m0.lst?).bind boolsOf with
    | none => rw [e] at h; cases h
    | some bs =>
      rw [e] at h
      cases h
      obtain ⟨a, rfl, h1⟩ := bools_of hs r e
      exact ⟨a, bs, rfl, .inl (.inl h1), give_bool hs q⟩
  · cases h
theorem cs_any {K : PySem.W.Frag} : CallS cls (rAny K) mAny := by
  intro Z H vs ms m Q hs r h q
  unfold mAny at h
  split at h
  · rename_i m0
    cases e : (m0.lst?).bind boolsOf with
    | none => rw [e] at h; cases h
    | some bs =>
      rw [e] at h
      cases h
      obtain ⟨a, rfl, h1⟩ := bools_of hs r e
      exact ⟨a, bs, rfl, .inl (.inl h1), give_bool hs q⟩
  · cases h

/-! ### list(..), tuple(..) -/
def mList : List M → Option M
  | [.v (.tuple xs)] => some (.ml xs)
  | [m] => (m.lst?).map .ml
  | _ => none
theorem cs_list {K : PySem.W.Frag} : CallS cls (fun xs H Q => ∃ p ys, xs = [.ref p] ∧ (SqL K H p ys ∨ SqT K H p ys) ∧ ∀ l, H l = none → Q (.ref l) (upd H l (.lst ys))) mList := by
  intro Z H vs ms m Q hs r h q
  unfold mList at h
  split at h
  · cases h
    obtain ⟨v, P, rfl, r1⟩ := r.one
    obtain ⟨a, us, rfl, h1, h2⟩ := RD.tupOf r1
    exact ⟨a, us, rfl, .inr (.inl (.inl (hs _ _ h1))), fun l hl => give_ml hs h2 hl q⟩
  · rename_i m0 _
    cases e : m0.lst? with
    | none => rw [e] at h; cases h
    | some ds =>
      rw [e] at h
      cases h
      obtain ⟨v, P, rfl, r1⟩ := r.one
      obtain ⟨a, us, rfl, h1, h2⟩ := r1.lst hs e
      exact ⟨a, us, rfl, .inl (.inl (.inl h1)), fun l hl => give_ml hs h2 hl q⟩
  · cases h
def mTuple : List M → Option M
  | [.v (.tuple xs)] => some (.v (.tuple xs))
  | [m] => (m.lst?).map fun xs => .v (.tuple xs)
  | _ => none
theorem cs_tuple {K : PySem.W.Frag} : CallS cls (fun xs H Q => ∃ p ys, xs = [.ref p] ∧ ((SqL K H p ys ∧ ∀ l, H l = none → Q (.ref l) (upd H l (.tup ys))) ∨ (SqT K H p ys ∧ Q (.ref p) H))) mTuple := by
  intro Z H vs ms m Q hs r h q
  unfold mTuple at h
  split at h
  · cases h
    obtain ⟨v, P, rfl, r1⟩ := r.one
    obtain ⟨a, us, rfl, h1, h2⟩ := RD.tupOf r1
    exact ⟨a, us, rfl, .inr ⟨.inl (.inl (hs _ _ h1)), give_v hs (.tup h1 h2) q⟩⟩
  · rename_i m0 _
    cases e : m0.lst? with
    | none => rw [e] at h; cases h
    | some ds =>
      rw [e] at h
      cases h
      obtain ⟨v, P, rfl, r1⟩ := r.one
      obtain ⟨a, us, rfl, h1, h2⟩ := r1.lst hs e
      exact ⟨a, us, rfl, .inl ⟨.inl (.inl h1), fun l hl => give_tup hs h2 hl q⟩⟩
  · cases h
end

/-! ### min, max, sorted of data -/
def isNoD : D → Bool
  | .none => true
  | _ => false
def alikeB (ds : List D) : Bool := PyData.canLayAll0 ds && Nat.ble (PyData.depthAll ds) 60 && ds.all fun x => !isNoD x && ds.all fun y => W.alike x y
theorem alikeB_of {ds : List D} (h : alikeB ds = true) : PyData.canLayAll0 ds = true ∧ PyData.depthAll ds ≤ 60 ∧ W.AlikeAll ds := by
  unfold alikeB at h
  simp only [Bool.and_eq_true] at h
  refine ⟨h.1.1, Nat.le_of_ble_eq_true h.1.2, fun x hx y hy => ?_, fun x hx => ?_⟩
  · have := List.all_eq_true.mp h.2 x hx
    rw [Bool.and_eq_true] at this
    exact List.all_eq_true.mp this.2 y hy
  · have := List.all_eq_true.mp h.2 x hx
    rw [Bool.and_eq_true] at this
    intro z
    rw [z] at this
    cases this.1
theorem minD_mem : ∀ (ds : List D) (d : D), W.minD d ds ∈ d :: ds
  | [], d => List.mem_cons_self ..
  | e :: ds, d => by
    show W.minD (if W.dataLt e d then e else d) ds ∈ _
    have := minD_mem ds (if W.dataLt e d then e else d)
    by_cases h : W.dataLt e d = true
    · rw [if_pos h] at this ⊢
      exact List.mem_cons_of_mem _ this
    · rw [if_neg h] at this ⊢
      rcases List.mem_cons.mp this with h2 | h2
      · rw [h2]; exact List.mem_cons_self ..
      · exact List.mem_cons_of_mem _ (List.mem_cons_of_mem _ h2)
theorem maxD_mem : ∀ (ds : List D) (d : D), W.maxD d ds ∈ d :: ds
  | [], d => List.mem_cons_self ..
  | e :: ds, d => by
    show W.maxD (if W.dataLt d e then e else d) ds ∈ _
    have := maxD_mem ds (if W.dataLt d e then e else d)
    by_cases h : W.dataLt d e = true
    · rw [if_pos h] at this ⊢
      exact List.mem_cons_of_mem _ this
    · rw [if_neg h] at this ⊢
      rcases List.mem_cons.mp this with h2 | h2
      · rw [h2]; exact List.mem_cons_self ..
      · exact List.mem_cons_of_mem _ (List.mem_cons_of_mem _ h2)
section
variable {X : Cx}
def rBest (K : PySem.W.Frag) (B : D → List D → D) : List V → Hp → VK → Prop := fun xs H Q => ∃ a ys d ds, xs = [.ref a] ∧ (SqL K H a ys ∨ SqT K H a ys) ∧ DpAll K H ys (d :: ds) ∧ W.AlikeAll (d :: ds) ∧ PyData.depthAll (d :: ds) ≤ 60 ∧ ∀ (i : Nat) (y : V), ys[i]? = some y → (d :: ds)[i]? = some (B d ds) → Q y H
theorem best_end {pins : List (Addr × Obj)} {σ : St} {H : Hp} {s : Shared} {Q : VK} {ys : List V} {its : List Value} {d b : D} {ds : List D} {as bs : List Addr} {i : Nat} {u : Value} {h' : Heap} {tk : Nat} (I : Inv X pins σ H s) (rv : Vals ys its) (hr : ReadsAll s.heap its (d :: ds) as)
    (ha : W.AlikeAll (d :: ds)) (hb : b ∈ d :: ds) (e : its.toArray[i]? = some u) (r : Reads h' u b bs) (k : ∀ c o, s.heap.get? c = some o → h'.get? c = some o) (q : ∀ (i : Nat) (y : V), ys[i]? = some y → (d :: ds)[i]? = some b → Q y H) : EP X pins σ Q u { s with heap := h', toks := tk } := by
  have e' : its[i]? = some u := by simpa using e
  have hi : i < its.length := (List.getElem?_eq_some_iff.mp e').1
  have hiy : i < ys.length := by rw [rv.length]; exact hi
  obtain ⟨u', e2, ru⟩ := rv.get (List.getElem?_eq_getElem hiy)
  rw [e'] at e2
  cases e2
  obtain ⟨bs', r', hlt, hm, _⟩ := W.readsAll_at hr i u e'
  have er : (d :: ds)[i]? = some ((d :: ds).getD i .none) := by
    rw [List.getD_eq_getElem?_getD, List.getElem?_eq_getElem hlt]
    rfl
  have eb : (d :: ds).getD i .none = b := W.alike_unique _ _ u bs' bs (ha.1 _ hm _ hb) (Reads.keeps k r') r
  rw [eb] at er
  exact ⟨ys[i], H, I.kept (t' := tk) k, ru, q i _ (List.getElem?_eq_getElem hiy) er⟩
theorem cr_minD (hc : X.calm = true) (hu : X.A.units + 65 < cLine) : CallR X (.builtin "min") (rBest X.K W.minD) := by
  intro pins s σ H xs us Q I r h
  obtain ⟨a, ys, d, ds, rfl, hs, hd, ha, hz, q⟩ := h
  rw [Vals.ref1 r]
  rcases hs with hs | hs
  · obtain ⟨its, rv, hl, _⟩ := I.list hs
    obtain ⟨as, hr⟩ := Dp.readsAll I (d :: ds) ys its hd rv
    exact W.min_list_data (I.ok.hd hc) hl.isList (by simpa using hr) ha (by omega) fun i u h' tk bs e r k => best_end I rv hr ha (minD_mem ds d) e r k q
  · obtain ⟨its, rv, hl, _⟩ := I.tuple hs
    obtain ⟨as, hr⟩ := Dp.readsAll I (d :: ds) ys its hd rv
    exact W.min_tuple_data (I.ok.hd hc) hl (by simpa using hr) ha (by omega) fun i u h' tk bs e r k => best_end I rv hr ha (minD_mem ds d) e r k q
theorem cr_maxD (hc : X.calm = true) (hu : X.A.units + 65 < cLine) : CallR X (.builtin "max") (rBest X.K W.maxD) := by
  intro pins s σ H xs us Q I r h
  obtain ⟨a, ys, d, ds, rfl, hs, hd, ha, hz, q⟩ := h
  rw [Vals.ref1 r]
  rcases hs with hs | hs
  · obtain ⟨its, rv, hl, _⟩ := I.list hs
    obtain ⟨as, hr⟩ := Dp.readsAll I (d :: ds) ys its hd rv
    exact W.max_list_data (I.ok.hd hc) hl.isList (by simpa using hr) ha (by omega) fun i u h' tk bs e r k => best_end I rv hr ha (maxD_mem ds d) e r k q
  · obtain ⟨its, rv, hl, _⟩ := I.tuple hs
    obtain ⟨as, hr⟩ := Dp.readsAll I (d :: ds) ys its hd rv
    exact W.max_tuple_data (I.ok.hd hc) hl (by simpa using hr) ha (by omega) fun i u h' tk bs e r k => best_end I rv hr ha (maxD_mem ds d) e r k q
end
/-- the items of a list or a tuple -/
def M.seq? : M → Option (List D)
  | .v (.tuple xs) => some xs
  | m => m.lst?
theorem RM.seq {cls : Cls} {Z H : Hp} {P : Addr → Prop} {v : V} {m : M} {K : PySem.W.Frag} {xs : List D} (r : RM cls Z H P v m) (hs : Sub Z H) (e : m.seq? = some xs) : ∃ a ys, v = .ref a ∧ (SqL K H a ys ∨ SqT K H a ys) ∧ RDs cls Z ys xs := by
  have ls : m.lst? = some xs → ∃ a ys, v = .ref a ∧ (SqL K H a ys ∨ SqT K H a ys) ∧ RDs cls Z ys xs := fun e => by
    obtain ⟨a, ys, rfl, h1, h2⟩ := r.lst hs e
    exact ⟨a, ys, rfl, .inl (.inl (.inl h1)), h2⟩
  cases m with
  | v d =>
    cases d with
    | tuple ds =>
      cases e
      obtain ⟨a, ys, rfl, h1, h2⟩ := RD.tupOf r
      exact ⟨a, ys, rfl, .inr (.inl (.inl (hs _ _ h1))), h2⟩
    | _ => exact ls e
  | _ => exact ls e
def mBest (B : D → List D → D) : List M → Option M
  | [m] => match m.seq? with
    | some (d :: ds) => if alikeB (d :: ds) then some (.v (B d ds)) else none
    | _ => none
  | _ => none
theorem cs_best {cls : Cls} {K : PySem.W.Frag} {B : D → List D → D} : CallS cls (rBest K B) (mBest B) := by
  intro Z H vs ms m Q hs r h q
  unfold mBest at h
  split at h
  · split at h
    · rename_i d ds e
      split at h
      · rename_i hb
        cases h
        obtain ⟨v, P, rfl, r1⟩ := r.one
        obtain ⟨a, ys, rfl, h1, h2⟩ := r1.seq (K := K) hs e
        obtain ⟨b1, b2, b3⟩ := alikeB_of hb
        refine ⟨a, ys, d, ds, rfl, h1, RDs.dps _ _ b1 (hs.dps _ _ h2), b3, b2, fun i y e1 e2 => ?_⟩
        obtain ⟨y', e3, r3⟩ := h2.get e2
        rw [e1] at e3
        cases e3
        exact give_v hs r3 q
      · cases h
    · cases h
  · cases h
/-- min(a, b), max(a, b) of ints -/
def mMin2 : List M → Option M
  | [.v (.int i), .v (.int j)] => some (.v (.int (if j < i then j else i)))
  | _ => none
def mMax2 : List M → Option M
  | [.v (.int i), .v (.int j)] => some (.v (.int (if j > i then j else i)))
  | _ => none
theorem cs_min2 {cls : Cls} : CallS cls (fun xs H Q => ∃ i j, xs = [.int i, .int j] ∧ Q (.int (if j < i then j else i)) H) mMin2 := by
  intro Z H vs ms m Q hs r h q
  unfold mMin2 at h
  split at h
  · cases h
    obtain ⟨v, v', P, P', rfl, r1, r2⟩ := r.two
    obtain rfl := rd_int r1
    obtain rfl := rd_int r2
    exact ⟨_, _, rfl, give_int hs q⟩
  · cases h
theorem cs_max2 {cls : Cls} : CallS cls (fun xs H Q => ∃ i j, xs = [.int i, .int j] ∧ Q (.int (if j > i then j else i)) H) mMax2 := by
  intro Z H vs ms m Q hs r h q
  unfold mMax2 at h
  split at h
  · cases h
    obtain ⟨v, v', P, P', rfl, r1, r2⟩ := r.two
    obtain rfl := rd_int r1
    obtain rfl := rd_int r2
    exact ⟨_, _, rfl, give_int hs q⟩
  · cases h
def mAbs : List M → Option M
  | [.v (.int i)] => some (.v (.int (if i < 0 then -i else i)))
  | _ => none
theorem cs_abs {cls : Cls} : CallS cls (fun xs H Q => ∃ i, xs = [.int i] ∧ Q (.int (if i < 0 then -i else i)) H) mAbs := by
  intro Z H vs ms m Q hs r h q
  unfold mAbs at h
  split at h
  · cases h
    obtain ⟨v, P, rfl, r1⟩ := r.one
    obtain rfl := rd_int r1
    exact ⟨_, rfl, give_int hs q⟩
  · cases h
/-- sorted -/
def sortD (ds : List D) : List D := ds.mergeSort (W.dataLe false id)
def hasTup : D → Bool
  | .tuple _ => true
  | _ => false
def isTupN : D → Bool
  | .tuple (_ :: _) => true
  | _ => false
def sortOk (ds : List D) : Bool := alikeB ds && (ds.all isTupN || ds.all fun d => !hasTup d) && sizeOk ds.length
theorem sortOk_of {ds : List D} (h : sortOk ds = true) : PyData.canLayAll0 ds = true ∧ PyData.depthAll ds ≤ 60 ∧ W.AlikeAll ds ∧ W.Sortable ds ∧ ds.length ≤ sizeLine := by
  unfold sortOk at h
  simp only [Bool.and_eq_true, Bool.or_eq_true] at h
  obtain ⟨⟨h1, h2⟩, h3⟩ := h
  obtain ⟨a, b, c⟩ := alikeB_of h1
  refine ⟨a, b, c, ?_, sizeOk_le h3⟩
  rcases h2 with h2 | h2
  · refine .inl fun d hd => ?_
    have := List.all_eq_true.mp h2 d hd
    cases d with
    | tuple xs =>
      cases xs with
      | nil => cases this
      | cons x r => exact ⟨x, r, rfl⟩
    | _ => cases this
  · refine .inr fun d hd => ⟨c.2 d hd, fun xs e => ?_⟩
    have := List.all_eq_true.mp h2 d hd
    rw [e] at this
    cases this
theorem depth_mem : ∀ {ds : List D} {d : D}, d ∈ ds → d.depth ≤ PyData.depthAll ds
  | [], _, h => by cases h
  | e :: ds, d, h => by
    have e2 : PyData.depthAll (e :: ds) = max e.depth (PyData.depthAll ds) := rfl
    rw [e2]
    rcases List.mem_cons.mp h with rfl | h
    · exact Nat.le_max_left _ _
    · exact Nat.le_trans (depth_mem h) (Nat.le_max_right _ _)
section
variable {X : Cx} {cls : Cls}
def rSortD (K : PySem.W.Frag) (cls : Cls) : List V → Hp → VK → Prop := fun xs H Q => ∃ a ys ds, xs = [.ref a] ∧ SqL K H a ys ∧ RDs cls H ys ds ∧ sortOk ds = true ∧ (∃ Z, Sub Z H ∧ RDs cls Z ys ds ∧ ∀ p zs, H p = none → RDs cls Z zs (sortD ds) → Q (.ref p) (upd H p (.lst zs)))
theorem each_of {R : V → D → Prop} : ∀ {ys : List V} {its : List Value} {ds : List D}, Vals ys its → (∀ (i : Nat) (y : V) (d : D), ys[i]? = some y → ds[i]? = some d → R y d) → ys.length = ds.length → W.EachIs (fun u d => ∃ y, RelV y u ∧ R y d) its ds
  | [], _, [], .nil, _, _ => .nil
  | [], _, _ :: _, .nil, _, h => by cases h
  | y :: ys, _, [], .cons _ _, _, h => by cases h
  | y :: ys, _, d :: ds, .cons r t, hR, h => .cons ⟨y, r, hR 0 y d rfl rfl⟩ (each_of t (fun i y d e1 e2 => hR (i + 1) y d e1 e2) (by simpa using h))
theorem of_each {Z : Hp} : ∀ {its : List Value} {ds : List D}, W.EachIs (fun u d => ∃ y, RelV y u ∧ RD cls Z y d) its ds → ∃ zs, Vals zs its ∧ RDs cls Z zs ds
  | _, _, .nil => ⟨[], .nil, .nil⟩
  | _, _, .cons ⟨y, r, h⟩ t => by
    obtain ⟨zs, h1, h2⟩ := of_each t
    exact ⟨y :: zs, .cons r h1, .cons h h2⟩
theorem RDs.all {Z : Hp} : ∀ {ys : List V} {ds : List D}, RDs cls Z ys ds → ∀ (i : Nat) (y : V) (d : D), ys[i]? = some y → ds[i]? = some d → RD cls Z y d
  | _, _, .nil, _, _, _, h, _ => by cases h
  | _, _, .cons h _, 0, _, _, e1, e2 => by cases e1; cases e2; exact h
  | _, _, .cons _ t, i + 1, _, _, e1, e2 => RDs.all t i _ _ e1 e2
theorem cr_sortD (hu : X.A.units + 65 < cLine) : CallR X (.builtin "sorted") (rSortD X.K cls) := by
  intro pins s σ H xs us Q I r h
  obtain ⟨a, ys, ds, rfl, hs, _, ok, Z, hz, hd, q⟩ := h
  rw [Vals.ref1 r]
  obtain ⟨b1, b2, b3, b4, b5⟩ := sortOk_of ok
  obtain ⟨its, rv, hl, _⟩ := I.list hs
  have hdp : DpAll X.K H ys ds := RDs.dps ds ys b1 (hz.dps _ _ hd)
  obtain ⟨as, hr⟩ := Dp.readsAll I ds ys its hdp rv
  have er := W.readsAll_each (h := s.heap) id (vs := its) (bs := ds) (by rw [List.map_id]; exact hr)
  refine W.sorted_data (enc := id) hl.isList (each_of rv hd.all hd.length) er (by rw [List.map_id]; exact b3.1) (by rw [List.map_id]; exact b4) b5 (fun b hb => ?_) fun out h1 h2 => ?_
  · have := depth_mem hb
    show X.A.units + 2 + b.depth < cLine
    omega
  · obtain ⟨zs, k1, k2⟩ := of_each h2
    obtain ⟨ep, he'⟩ := PyProof.Rows.sortedAll_at s.heap its out.toArray
    have hlen : zs.length ≤ sizeLine := by
      rw [k1.length, h1]
      exact b5
    exact ⟨.ref _, upd H (s.heap.objs.size + 1) (.lst zs), I.laid (t' := s.toks) (fun _ _ => PyProof.Rows.sortedAll_old) (Nat.le_succ _) ⟨hlen, out, ep, k1, he'⟩, rfl, q _ _ (I.hok.fresh (Nat.le_succ _)) k2⟩
def mSorted : List M → Option M
  | [m] => match m.lst? with
    | some ds => if sortOk ds then some (.ml (sortD ds)) else none
    | none => none
  | _ => none
theorem cs_sorted {K : PySem.W.Frag} : CallS cls (rSortD K cls) mSorted := by
  intro Z H vs ms m Q hs r h q
  unfold mSorted at h
  split at h
  · split at h
    · rename_i ds e
      split at h
      · rename_i ok
        cases h
        obtain ⟨v, P, rfl, r1⟩ := r.one
        obtain ⟨a, ys, rfl, h1, h2⟩ := r1.lst hs e
        exact ⟨a, ys, ds, rfl, .inl (.inl h1), hs.dps _ _ h2, ok, Z, hs, h2, fun p zs hp hz => give_ml hs hz hp q⟩
      · cases h
    · cases h
  · cases h
end

/-! ### isinstance of data -/
section
variable {X : Cx} {C : Base} {W : WX}
def isaD (T : String) (d : D) : Option Bool := match T with
  | "int" => some d.isInt
  | "bool" => some d.isBool
  | "str" => some d.isStr
  | "tuple" => some d.isTuple
  | "list" => some d.isList
  | _ => none
def mIsa (T : String) (m : M) : Option M := match m.asD with
  | some d => if d.canLay0 then (isaD T d).map fun b => .v (.bool b) else none
  | none => none
def rIsa (K : PySem.W.Frag) (T : String) : List V → Hp → VK → Prop := fun xs H Q => ∃ x d b, xs = [x, .ty T] ∧ Dp K H x d ∧ isaD T d = some b ∧ Q (.bl b) H
theorem cr_isa {T : String} : CallR X (.builtin "isinstance") (rIsa X.K T) := by
  intro pins s σ H xs us Q I r h
  obtain ⟨x, d, b, rfl, hd, e, q⟩ := h
  obtain ⟨u, u', rfl, r1, r2⟩ := vals2 r
  obtain rfl : u' = Value.type T := r2
  obtain ⟨as, rr⟩ := Dp.reads I d x u hd r1
  have fin : ∀ tk, EP X pins σ Q (.bool b) { s with toks := tk } := fun tk => ⟨.bl b, H, I.tok tk, rfl, q⟩
  unfold isaD at e
  split at e <;> cases e
  · exact W.isinstance_int_data rr fun tk _ => fin tk
  · exact W.isinstance_bool_data rr fun tk _ => fin tk
  · exact W.isinstance_str_data rr fun tk _ => fin tk
  · exact W.isinstance_tuple_data rr fun tk _ => fin tk
  · exact W.isinstance_list_data rr fun tk _ => fin tk
theorem je_isa {e : Expr} {f : JF} {T : String} {x : Str} {p p1 pos : Pos} (ha : JE X C W e f) (hg : Gl X "isinstance") (hm : X.mg "isinstance" = none) (hgT : Gl X x) (hmT : X.mg x = none) (hvT : bootBuiltins x = some (.type T)) (hnT : x ≠ "__name__" := by decide) (hdT : (x == ("__debug__" : Str)) = false := by decide)
    (he : starEach [e, .Name x p1] X.env = (false, eval e X.env) :: starEach [.Name x p1] X.env := by rfl) (hpl : (backTo pos (starEach [.Name x p1] X.env)).any (·.1) = false := by rfl) :
    JE X C W (.Call (.Name "isinstance" p) [e, .Name x p1] [] pos) (jUn (mIsa T) f) := by
  refine PE.imp (pe_callB (cr_isa (T := T)) hg hm (by decide +kernel) (pa_cons ha (pa_cons (pe_bltn (v := .ty T) hgT hmT hvT rfl hnT hdT) pa_nil) he) (by decide) (by decide) he hpl) fun σ H Q k => ?_
  have := tJ_un (C := C) (W := W) (f := f) (F := mIsa T) (r := fun x H Q => ∃ d b, Dp X.K H x d ∧ isaD T d = some b ∧ Q (.bl b) H) (fun Z H x a m P Q hs r1 h q => by
    unfold mIsa at h
    split at h
    · rename_i d e
      split at h
      · rename_i c
        cases e2 : isaD T d with
        | none => rw [e2] at h; cases h
        | some b =>
          rw [e2] at h
          cases h
          exact ⟨d, b, r1.vdp hs e c, e2, give_bool hs q⟩
      · cases h
    · cases h) k
  obtain ⟨Zb, Z, o, ρ, T', w, k⟩ := this
  refine ⟨Zb, Z, o, ρ, T', w, ?_⟩
  cases hf : f ρ with
  | stuck => rw [hf] at k; exact k
  | exc c d ρ1 => rw [hf] at k; exact k
  | ok s ρ1 =>
    rw [hf] at k
    intro Z1 H1 o1 v T1 w1 a1
    obtain ⟨d, b, h1, h2, h3⟩ := k Z1 H1 o1 v T1 w1 a1
    exact ⟨v, d, b, rfl, h1, h2, h3⟩
end
end FW
end

section
set_option Elab.async false
set_option linter.all false
set_option maxRecDepth 100000
set_option autoImplicit false
/-! FW9: what is owned is changed: methods of lists, items stored, dicts. -/
namespace FW
open PySem PySem.Spec PyProof.Rows L2

section
variable {C : Base} {Z H : Hp} {o : Addr → Option Nat} {σ : St} {ρ : Env} {T : List (V × M)} {v : V} {m : M} {i : Nat} {a : Addr}
theorem set_get' {ρ : Env} {i : Nat} {x m m' : M} (hx : ρ[i]? = some (some x)) (h : (ρ.set i (some m))[i]? = some (some m')) : m' = m := by
  have hl : i < ρ.length := (List.getElem?_eq_some_iff.mp hx).1
  rw [List.getElem?_set_self hl] at h
  cases h
  rfl
/-- the one object that a slot owns is written -/
theorem Own.set1 {x : M} {u0 u : HO} (w : Own C Z H o σ ρ T) (hi : ρ[i]? = some (some x)) (ho : o a = some i) (ha : H a = some u0) (hu : Ownable u0) (hn : Ownable u) (hv : σ[i]? = some (some v)) (r : RM C.cls Z (upd H a u) (fun b => o b = some i) v m) :
    Own C Z (upd H a u) o σ (ρ.set i (some m)) T := by
  have hlt := w.slot_lt hi
  refine w.write ho ha hu hn _ T (fun j m' e => ?_) fun j v' m' e => .inl ⟨e, by omega⟩
  rcases set_get e with ⟨rfl, e2⟩ | ⟨ne, e2⟩
  · cases e2
    exact .inr ⟨v, hv, r⟩
  · exact .inl ⟨e2, ne⟩
theorem Own.give1 {Q : V → Hp → Prop} {d : D} {y : V} (w : Own C Z H o σ ρ T) (r : RD C.cls Z y d) (q : ∀ v Z' H' o', Own C Z' H' o' σ ρ (T ++ [(v, .v d)]) → Q v H') : Q y H := by
  obtain ⟨o', w'⟩ := w.push (v := y) (m := .v d) Sub.rfl' Sub.rfl' w.zh (fun a u e => .inl e) r
  exact q y Z H o' w'
end

/-- what a method makes of the slot's content and of the arguments: the new content, the result -/
def MutS (cls : Cls) (r : V → List V → Hp → VK → Prop) (F : M → List M → Option (M × M)) : Prop :=
  ∀ (C : Base) (Z H : Hp) (o : Addr → Option Nat) (σ : St) (ρ : Env) (T : List (V × M)) (i : Nat) (x : V) (vs : List V) (a : M) (ms : List M) (a' m' : M) (Q : VK), C.cls = cls →
    Own C Z H o σ ρ T → ρ[i]? = some (some a) → σ[i]? = some (some x) → RMs C.cls Z H vs ms → F a ms = some (a', m') →
      (∀ v Z' H' o', Own C Z' H' o' σ (ρ.set i (some a')) (T ++ [(v, m')]) → Q v H') → r x vs H Q
def kindOk (T : String) (m : M) : Bool := match T, m with
  | "list", .ml _ => true
  | "list", .mll _ => true
  | _, _ => false
def mtR (i : Nat) (ρ : Env) (F : Option (M × M)) : Res Src := match F with
  | some (a', m') => .ok (.tmp m') (ρ.set i (some a'))
  | none => .stuck
def mtA (F : M → List M → Option (M × M)) (a : Option M) (ms : Option (List M)) : Option (M × M) := match a, ms with
  | some a, some ms => F a ms
  | _, _ => none
def jMt (T : String) (i : Nat) (F : M → List M → Option (M × M)) (g : AF) : JF := fun ρ => match slotOf ρ i with
  | some m0 => if kindOk T m0 then (g ρ).bind fun ss ρ1 => mtR i ρ1 (mtA F (slotOf ρ1 i) (gets ρ1 ss)) else .stuck
  | none => .stuck
section
variable {X : Cx} {C : Base} {W : WX} {i : Nat} {g : AF} {T : String} {r : V → List V → Hp → VK → Prop} {F : M → List M → Option (M × M)}
theorem kind_ty {K : PySem.W.Frag} {cls : Cls} {Z H : Hp} {P : Addr → Prop} {x : V} {m : M} (h : kindOk T m = true) (rm : RM cls Z H P x m) : tyV K T x H := by
  unfold kindOk at h
  split at h
  · obtain ⟨a, ys, rfl, _, h1, _⟩ := rm
    exact .inl ⟨rfl, _, .inl (.inl h1)⟩
  · obtain ⟨a, ys, rfl, _, h1, _⟩ := rm
    exact .inl ⟨rfl, _, .inl (.inl h1)⟩
  · cases h
theorem tJ_mt (hr : MutS C.cls r F) {σ : St} {H : Hp} {Q : VK} (k : tJ C W (jMt T i F g) σ H Q) : tBM X.K T r (tVar i) (tA C W g) σ H Q := by
  obtain ⟨Zb, Z, o, ρ, T0, w, k⟩ := k
  unfold jMt at k
  cases e0 : slotOf ρ i with
  | none => rw [e0] at k; exact k.elim
  | some m0 =>
    rw [e0] at k
    simp only at k
    by_cases hk : kindOk T m0 = true
    · rw [if_pos hk] at k
      obtain ⟨x, hx, r0⟩ := w.sl i m0 (slotOf_some e0)
      refine ⟨x, hx, kind_ty hk r0, Zb, Z, o, ρ, T0, w, ?_⟩
      cases hf : g ρ with
      | stuck => rw [hf] at k; exact k
      | exc c d ρ1 => rw [hf] at k; exact k
      | ok ss ρ1 =>
        rw [hf] at k
        simp only [Res.bind_ok] at k
        intro Z1 H1 o1 vs T1 w1 a1
        obtain ⟨R, eR⟩ := a1.pre
        cases e1 : slotOf ρ1 i with
        | none => rw [e1] at k; exact k.elim
        | some a =>
          cases e2 : gets ρ1 ss with
          | none => rw [e1, e2] at k; exact k.elim
          | some ms =>
            rw [e1, e2] at k
            simp only [mtA] at k
            have rr := a1.rms w1 (List.append_nil _).symm e2
            cases e3 : F a ms with
            | none => rw [e3] at k; exact k.elim
            | some p =>
              obtain ⟨a', m'⟩ := p
              rw [e3] at k
              exact hr (C.at Zb) Z1 H1 o1 σ ρ1 T0 i x vs a ms a' m' Q rfl (w1.cut eR) (slotOf_some e1) hx rr e3 fun v Z2 H2 o2 w2 => k Z2 H2 o2 v _ w2 rfl
    · rw [if_neg hk] at k; exact k.elim
variable {x : Str} {e : Expr} {es : List Expr} {p apos cpos : Pos} {name : Str} {id : String}
theorem je_mt (pa : PlainAttrs T) (slot : Slot T name id) (hty : typeOf (.builtin id) = pure (.type "method_descriptor")) (hm : MtR X id r) (hr : MutS C.cls r F) (hN : X.N[i]? = some x) (hv : Vis X.env.scope x) (ha : JA X C W (e :: es) g)
    (hd : (x == ("__debug__" : Str)) = false := by decide) (hcd : (x == ("__classdict__" : Str)) = false := by decide)
    (hbase : attributeBase (.Name x p) name X.env (eval (.Name x p) X.env) = eval (.Name x p) X.env := by rfl)
    (hfew : ((backTo cpos (starEach (e :: es) X.env)).all (fun x => !x.1) && (backToKw cpos (keywordEach [] X.env)).all (fun x => x.1.isSome)
      && decide ((e :: es).length + ([] : List Keyword).length + (if ([] : List Keyword).isEmpty then 0 else 1) < 30)) = true := by rfl)
    (hline : (apos.endLine == cpos.line) = true := by rfl) (hs : starEach (e :: es) X.env = (false, eval e X.env) :: starEach es X.env := by rfl) (hplain : (backTo cpos (starEach es X.env)).any (·.1) = false := by rfl) :
    JE X C W (.Call (.Attribute (.Name x p) name apos) (e :: es) [] cpos) (jMt T i F g) :=
  PE.imp (pe_bm pa slot hty hm (pe_var hN hv hd hcd) ha hbase hfew hline hs hplain) fun _ _ _ => tJ_mt hr
theorem tJ_mt0 (hr : MutS C.cls r F) {σ : St} {H : Hp} {Q : VK} (k : tJ C W (jMt T i F aNil) σ H Q) : tBM0 X.K T r (tVar i) σ H Q := by
  have q := tJ_mt (X := X) (T := T) hr k
  obtain ⟨x, hx, ty, Zb, Z, o, ρ, T0, w, k⟩ := q
  exact ⟨x, hx, ty, k Z H o [] T0 w ⟨rfl, rfl⟩⟩
end

/-! ### methods of lists -/
def fAppend (a : M) (ms : List M) : Option (M × M) := match a, ms with
  | .ml xs, [m] => match m with
    | .v d => if sizeOk xs.length then some (.ml (xs ++ [d]), .v .none) else none
    | _ => none
  | .mll xss, [.ml xs] => none
  | _, _ => none
theorem sizeOk_lt {n : Nat} (h : sizeOk n = true) : n < sizeLine := by
  have := Nat.le_of_ble_eq_true h
  rw [sizeLine_eq]
  omega
section
variable {cls : Cls}
theorem ms_append : MutS cls rAppend fAppend := by
  intro C Z H o σ ρ T i x vs a ms a' m' Q ec w e1 e2 h1 h2 q
  unfold fAppend at h2
  split at h2
  · split at h2
    · split at h2
      · rename_i xs m0 d hz
        cases h2
        obtain ⟨v, P, rfl, r1⟩ := h1.one
        obtain ⟨x', e3, r0⟩ := w.sl i _ e1
        rw [e2] at e3
        cases e3
        obtain ⟨l, ys, rfl, ho, hl, hd⟩ := r0
        refine ⟨l, ys, v, rfl, rfl, hl, by rw [hd.length]; exact sizeOk_lt hz, ?_⟩
        have w2 := w.set1 (u := .lst (ys ++ [v])) (m := .ml (xs ++ [d])) e1 ho hl trivial trivial e2 ⟨l, ys ++ [v], rfl, ho, upd_same, hd.snoc r1⟩
        exact w2.give1 .non q
      · cases h2
    · cases h2
  · cases h2
  · cases h2
def fExtend (a : M) (ms : List M) : Option (M × M) := match a, ms with
  | .ml xs, [m] => match m.lst? with
    | some ys => if sizeOk (xs.length + ys.length) then some (.ml (xs ++ ys), .v .none) else none
    | none => none
  | _, _ => none
theorem ms_extend : MutS cls rExtend fExtend := by
  intro C Z H o σ ρ T i x vs a ms a' m' Q ec w e1 e2 h1 h2 q
  unfold fExtend at h2
  split at h2
  · rename_i xs m0
    split at h2
    · rename_i ys0 e0
      split at h2
      · rename_i hz
        cases h2
        obtain ⟨v, P, rfl, r1⟩ := h1.one
        obtain ⟨b, zs, rfl, hb, hzs⟩ := r1.lst w.zh e0
        obtain ⟨x', e3, r0⟩ := w.sl i _ e1
        rw [e2] at e3
        cases e3
        obtain ⟨l, ys, rfl, ho, hl, hd⟩ := r0
        refine ⟨l, b, ys, zs, rfl, rfl, hl, hb, by rw [hd.length, hzs.length]; exact sizeOk_le hz, ?_⟩
        have w2 := w.set1 (u := .lst (ys ++ zs)) (m := .ml (xs ++ ys0)) e1 ho hl trivial trivial e2 ⟨l, ys ++ zs, rfl, ho, upd_same, hd.append hzs⟩
        exact w2.give1 .non q
      · cases h2
    · cases h2
  · cases h2
def fPop (a : M) (ms : List M) : Option (M × M) := match a, ms with
  | .ml xs, [] => match xs[xs.length - 1]? with
    | some d => some (.ml xs.dropLast, .v d)
    | none => none
  | _, _ => none
theorem RDs.dropLast {Z : Hp} {vs : List V} {ds : List D} (h : RDs cls Z vs ds) : RDs cls Z vs.dropLast ds.dropLast := by
  rw [List.dropLast_eq_take, List.dropLast_eq_take, h.length]
  exact h.take _
theorem ms_pop : MutS cls rPop fPop := by
  intro C Z H o σ ρ T i x vs a ms a' m' Q ec w e1 e2 h1 h2 q
  unfold fPop at h2
  split at h2
  · rename_i xs
    split at h2
    · rename_i d e0
      cases h2
      have h1 : vs = [] := by
        cases vs with
        | nil => rfl
        | cons v vs =>
          obtain ⟨_, _, z, _⟩ := h1
          cases z
      subst h1
      obtain ⟨x', e3, r0⟩ := w.sl i _ e1
      rw [e2] at e3
      cases e3
      obtain ⟨l, ys, rfl, ho, hl, hd⟩ := r0
      obtain ⟨y, hy, ry⟩ := hd.get e0
      refine ⟨l, ys, y, rfl, rfl, hl, by rw [hd.length]; exact hy, ?_⟩
      have w2 := w.set1 (u := .lst ys.dropLast) (m := .ml xs.dropLast) e1 ho hl trivial trivial e2 ⟨l, ys.dropLast, rfl, ho, upd_same, RDs.dropLast hd⟩
      exact w2.give1 ry q
    · cases h2
  · cases h2
def fPopAt (a : M) (ms : List M) : Option (M × M) := match a, ms with
  | .ml xs, [.v (.int i)] => match ixN xs.length i with
    | some k => match xs[k]? with
      | some d => if inB i then some (.ml (xs.eraseIdx k), .v d) else none
      | none => none
    | none => none
  | _, _ => none
theorem ms_popAt : MutS cls rPopAt fPopAt := by
  intro C Z H o σ ρ T i x vs a ms a' m' Q ec w e1 e2 h1 h2 q
  unfold fPopAt at h2
  split at h2
  · rename_i xs j
    split at h2
    · rename_i k ek
      split at h2
      · rename_i d e0
        split at h2
        · rename_i hb
          cases h2
          obtain ⟨v, P, rfl, r1⟩ := h1.one
          obtain rfl := rd_int r1
          obtain ⟨x', e3, r0⟩ := w.sl i _ e1
          rw [e2] at e3
          cases e3
          obtain ⟨l, ys, rfl, ho, hl, hd⟩ := r0
          obtain ⟨y, hy, ry⟩ := hd.get e0
          have hb := inB_of hb
          refine ⟨l, ys, j, k, y, rfl, rfl, hl, by omega, by omega, by rw [hd.length]; exact (ixN_seq ek).1, hy, ?_⟩
          have w2 := w.set1 (u := .lst (ys.eraseIdx k)) (m := .ml (xs.eraseIdx k)) e1 ho hl trivial trivial e2 ⟨l, ys.eraseIdx k, rfl, ho, upd_same, hd.eraseIdx k⟩
          exact w2.give1 ry q
        · cases h2
      · cases h2
    · cases h2
  · cases h2
end

/-! ### dicts -/
section
variable {κ : Type} [DecidableEq κ]
def valM (kvs : List (κ × D)) (k : κ) : Option D := (kvs.find? fun kv => decide (kv.1 = k)).map (·.2)
def putM (kvs : List (κ × D)) (k : κ) (d : D) : List (κ × D) := if kvs.any fun kv => decide (kv.1 = k) then kvs.map fun kv => if kv.1 = k then (kv.1, d) else kv else kvs ++ [(k, d)]
variable {cls : Cls} {Z : Hp}
theorem RKs.val : ∀ {ys : List (κ × V)} {kvs : List (κ × D)} (k : κ), RKs cls Z ys kvs → (valV ys k = none ∧ valM kvs k = none) ∨ ∃ v d, valV ys k = some v ∧ valM kvs k = some d ∧ RD cls Z v d
  | _, _, k, .nil => .inl ⟨rfl, rfl⟩
  | (k1, v) :: ys, (k2, d) :: kvs, k, .cons h t => by
    obtain ⟨e, r⟩ := h
    have e : k1 = k2 := e
    subst e
    unfold valV valM
    rw [List.find?_cons, List.find?_cons]
    by_cases hk : k1 = k
    · simp only [hk, decide_true]
      exact .inr ⟨v, d, rfl, rfl, r⟩
    · simp only [hk, decide_false]
      exact RKs.val k t
theorem RKs.any : ∀ {ys : List (κ × V)} {kvs : List (κ × D)} (k : κ), RKs cls Z ys kvs → (ys.any fun kv => decide (kv.1 = k)) = kvs.any fun kv => decide (kv.1 = k)
  | _, _, k, .nil => rfl
  | _ :: ys, _ :: kvs, k, .cons h t => by
    rw [List.any_cons, List.any_cons, RKs.any k t, h.1]
theorem RKs.mapPut {v : V} {d : D} (r : RD cls Z v d) (k : κ) : ∀ {ys : List (κ × V)} {kvs : List (κ × D)}, RKs cls Z ys kvs → RKs cls Z (ys.map fun kv => if kv.1 = k then (kv.1, v) else kv) (kvs.map fun kv => if kv.1 = k then (kv.1, d) else kv)
  | _, _, .nil => .nil
  | (k1, v1) :: ys, (k2, d2) :: kvs, .cons h t => by
    obtain ⟨e, r1⟩ := h
    have e : k1 = k2 := e
    subst e
    refine .cons ?_ (RKs.mapPut r k t)
    by_cases hk : k1 = k
    · simp only [hk, if_true]
      exact ⟨trivial, r⟩
    · simp only [hk, if_false]
      exact ⟨trivial, r1⟩
theorem RKs.put {ys : List (κ × V)} {kvs : List (κ × D)} {v : V} {d : D} (h : RKs cls Z ys kvs) (r : RD cls Z v d) (k : κ) : RKs cls Z (putK ys k v) (putM kvs k d) := by
  unfold putK putM
  rw [RKs.any k h]
  split
  · exact RKs.mapPut r k h
  · exact Paired.snoc h ⟨rfl, r⟩
end
def keyD : D → Option Key
  | .int i => some (.inl i)
  | .str s => some (.inr s)
  | _ => none
def keysD : List D → Option (List Key)
  | [] => some []
  | d :: ds => match keyD d, keysD ds with
    | some k, some ks => some (k :: ks)
    | _, _ => none
def tkeyD : D → Option (List Key)
  | .tuple ds => keysD ds
  | _ => none
section
variable {cls : Cls} {Z H : Hp}
theorem rd_key {v : V} {d : D} {k : Key} (r : RD cls Z v d) (h : keyD d = some k) : v = kV k := by
  cases d with
  | int i => cases h; exact rd_int r
  | str s => cases h; exact rd_str r
  | _ => cases h
theorem rds_keys : ∀ {ds : List D} {vs : List V} {ks : List Key}, RDs cls Z vs ds → keysD ds = some ks → vs = ks.map kV
  | [], vs, ks, r, h => by
    cases r
    cases h
    rfl
  | d :: ds, vs, ks, r, h => by
    cases r with
    | cons r1 r2 =>
      unfold keysD at h
      split at h
      · rename_i k ks' e1 e2
        cases h
        rw [rd_key r1 e1, rds_keys r2 e2]
        rfl
      · cases h
/-- what a dict's slot says of a key -/
def dGet (a : M) (k : D) : Option (Option D) := match a with
  | .md kvs => (keyD k).map fun q => valM kvs q
  | .mt kvs => (tkeyD k).map fun q => valM kvs q
  | _ => none
theorem dget_ok {P : Addr → Prop} {x y : V} {a : M} {k : D} {r : Option D} (hs : Sub Z H) (ra : RM cls Z H P x a) (rk : RD cls Z y k) (h : dGet a k = some r) : ∃ b, x = .ref b ∧ ((r = none ∧ DGet H b y none) ∨ ∃ v d, r = some d ∧ DGet H b y (some v) ∧ RD cls Z v d) := by
  cases a with
  | md kvs =>
    obtain ⟨b, ys, rfl, _, h1, h2⟩ := ra
    unfold dGet at h
    cases e : keyD k with
    | none => rw [e] at h; cases h
    | some q =>
      rw [e] at h
      cases h
      have ey := rd_key rk e
      subst ey
      refine ⟨b, rfl, ?_⟩
      have g := DGet.k (k := q) h1
      rcases RKs.val q h2 with ⟨e1, e2⟩ | ⟨v, d, e1, e2, r⟩
      · rw [e1] at g
        exact .inl ⟨e2, g⟩
      · rw [e1] at g
        exact .inr ⟨v, d, e2, g, r⟩
  | mt kvs =>
    obtain ⟨b, ys, rfl, _, h1, h2⟩ := ra
    unfold dGet at h
    cases k with
    | tuple ds =>
      cases e : keysD ds with
      | none => simp only [tkeyD, e] at h; cases h
      | some q =>
        simp only [tkeyD, e, Option.map_some] at h
        cases h
        obtain ⟨t, us, rfl, ht, hu⟩ := RD.tupOf rk
        have eu := rds_keys hu e
        subst eu
        refine ⟨b, rfl, ?_⟩
        have g := DGet.t (k := q) h1 (hs _ _ ht)
        rcases RKs.val q h2 with ⟨e1, e2⟩ | ⟨v, d, e1, e2, r⟩
        · rw [e1] at g
          exact .inl ⟨e2, g⟩
        · rw [e1] at g
          exact .inr ⟨v, d, e2, g, r⟩
    | _ => cases h
  | _ => cases h
end
section
variable {X : Cx} {cls : Cls}
def rIxDict : R2 := fun x y H Q => ∃ a v, x = .ref a ∧ DGet H a y (some v) ∧ Q v H
theorem ix_dict (hu : X.A.units + 1 < cLine) : IxR X rIxDict := by
  intro value slice pins s σ H x y v u Q I rx ry h hs
  obtain ⟨a, z, rfl, g, q⟩ := h
  cases rx
  exact tail_any (dict_typeIs I g) PySem.F.slot_dict_getitem.lookup (d_getItem hu I g ry fun w' s' J r => ⟨z, H, J, r, q⟩) hs
/-- any subscript that is read -/
def rIxA (K : PySem.W.Frag) : R2 := fun x y H Q => rIx K x y H Q ∨ rIxDict x y H Q
theorem ix_any (hu : X.A.units + 1 < cLine) : IxR X (rIxA X.K) := ix_seq.or (ix_dict hu)
def asV (m : M) : Option D := match m with
  | .v d => some d
  | _ => none
def mIxD (a b : M) : Option M := match (asV b).bind (dGet a) with
  | some (some d) => some (.v d)
  | _ => none
def mIxA (a b : M) : Option M := match a with
  | .md _ => mIxD a b
  | .mt _ => mIxD a b
  | _ => mIx a b
theorem os_ixA {K : PySem.W.Frag} : OpS cls (rIxA K) mIxA := by
  intro Z H x y a b m P P' Q hs r1 r2 h q
  have dict : mIxD a b = some m → rIxA K x y H Q := fun h => by
    unfold mIxD at h
    split at h
    · rename_i d e
      cases h
      cases b with
      | v k =>
        obtain ⟨c, rfl, ⟨e1, _⟩ | ⟨v, d', e1, g, r⟩⟩ := dget_ok hs r1 r2 (show dGet a k = some (some d) from e)
        · cases e1
        · cases e1
          exact .inr ⟨c, v, rfl, g, give_v hs r q⟩
      | _ => cases e
    · cases h
  cases a with
  | md kvs => exact dict h
  | mt kvs => exact dict h
  | _ => exact .inl (os_ix Z H x y _ b m P P' Q hs r1 r2 h q)
/-- x in d -/
def rInDict (neg : Bool) : R2 := fun y x H Q => ∃ a o, x = .ref a ∧ DGet H a y o ∧ Q (.bl (if neg then !o.isSome else o.isSome)) H
theorem op_inDict (hu : X.A.units + 1 < cLine) : OpR X (compareOp .In) (rInDict false) := by
  intro pins s σ H y x u v Q I ry rx h
  obtain ⟨a, o, rfl, g, q⟩ := h
  cases rx
  exact d_in hu I g ry fun s' J => ⟨.bl _, H, J, rfl, q⟩
theorem op_notInDict (hu : X.A.units + 1 < cLine) : OpR X (compareOp .NotIn) (rInDict true) := by
  intro pins s σ H y x u v Q I ry rx h
  obtain ⟨a, o, rfl, g, q⟩ := h
  cases rx
  exact d_notIn hu I g ry fun s' J => ⟨.bl _, H, J, rfl, q⟩
def rInX (K : PySem.W.Frag) (neg : Bool) : R2 := fun x y H Q => rInA K neg x y H Q ∨ rInDict neg x y H Q
theorem op_inX (hu : X.A.units + 65 < cLine) : OpR X (compareOp .In) (rInX X.K false) := (op_inA hu).or (op_inDict (by omega))
theorem op_notInX (hu : X.A.units + 65 < cLine) : OpR X (compareOp .NotIn) (rInX X.K true) := (op_notInA hu).or (op_notInDict (by omega))
def mInD (neg : Bool) (a b : M) : Option M := match (asV a).bind (dGet b) with
  | some r => some (.v (.bool (if neg then !r.isSome else r.isSome)))
  | none => none
def mInX (neg : Bool) (a b : M) : Option M := match b with
  | .md _ => mInD neg a b
  | .mt _ => mInD neg a b
  | _ => mIn neg a b
theorem os_inX {K : PySem.W.Frag} {neg : Bool} : OpS cls (rInX K neg) (mInX neg) := by
  intro Z H x y a b m P P' Q hs r1 r2 h q
  have dict : mInD neg a b = some m → rInX K neg x y H Q := fun h => by
    unfold mInD at h
    split at h
    · rename_i r e
      cases h
      cases a with
      | v k =>
        obtain ⟨c, rfl, ⟨rfl, g⟩ | ⟨v, d', rfl, g, _⟩⟩ := dget_ok hs r2 r1 (show dGet b k = some r from e)
        · exact .inr ⟨c, none, rfl, g, give_bool hs q⟩
        · exact .inr ⟨c, some v, rfl, g, give_bool hs q⟩
      | _ => cases e
    · cases h
  cases b with
  | md kvs => exact dict h
  | mt kvs => exact dict h
  | _ => exact .inl (os_in Z H x y a _ m P P' Q hs r1 r2 h q)

/-! ### items stored -/
def rSetDict : V → V → V → Hp → (Hp → Prop) → Prop := fun o i v H Q => ∃ a H4, o = .ref a ∧ DPut H a i v H4 ∧ Q H4
theorem set_dict (hu : X.A.units + 1 < cLine) : PSet X rSetDict := by
  intro pins s σ H o i v ov iv u Q I ro ri rv h
  obtain ⟨a, H4, rfl, g, q⟩ := h
  cases ro
  exact d_setItem hu I g ri rv fun s' J => ⟨H4, J, q⟩
def rSetA : V → V → V → Hp → (Hp → Prop) → Prop := fun o i v H Q => rSetL o i v H Q ∨ rSetDict o i v H Q
theorem set_any (hu : X.A.units + 1 < cLine) : PSet X rSetA := by
  intro pins s σ H o i v ov iv u Q I ro ri rv h
  rcases h with h | h
  · exact set_list pins s σ H o i v ov iv u Q I ro ri rv h
  · exact set_dict hu pins s σ H o i v ov iv u Q I ro ri rv h
end
def setM (a : M) (k d : D) : Option M := match a with
  | .ml xs => match k with
    | .int i => (ixN xs.length i).map fun j => .ml (xs.set j d)
    | _ => none
  | .md kvs => match keyD k with
    | some q => if sizeOk kvs.length then some (.md (putM kvs q d)) else none
    | none => none
  | .mt kvs => match tkeyD k with
    | some q => if sizeOk kvs.length then some (.mt (putM kvs q d)) else none
    | none => none
  | _ => none
section
variable {C : Base} {Z H : Hp} {o : Addr → Option Nat} {σ : St} {ρ : Env} {T : List (V × M)} {i : Nat} {x y z : V} {a a' : M} {k d : D}
theorem Own.setItem {Q : Hp → Prop} (w : Own C Z H o σ ρ T) (e1 : ρ[i]? = some (some a)) (e2 : σ[i]? = some (some x)) (rk : RD C.cls Z y k) (rd : RD C.cls Z z d) (h : setM a k d = some a')
    (q : ∀ H' o', Own C Z H' o' σ (ρ.set i (some a')) T → Q H') : rSetA x y z H Q := by
  obtain ⟨x', e3, r0⟩ := w.sl i _ e1
  rw [e2] at e3
  cases e3
  cases a with
  | ml xs =>
    obtain ⟨l, ys, rfl, ho, hl, hd⟩ := r0
    cases k with
    | int j =>
      unfold setM at h
      cases e : ixN xs.length j with
      | none => simp only [e] at h; cases h
      | some n =>
        simp only [e, Option.map_some] at h
        cases h
        obtain rfl := rd_int rk
        exact .inl ⟨l, ys, j, n, rfl, rfl, hl, by rw [hd.length]; exact e, q _ o (w.set1 (u := .lst (ys.set n z)) e1 ho hl trivial trivial e2 ⟨l, _, rfl, ho, upd_same, hd.set rd n⟩)⟩
    | _ => cases h
  | md kvs =>
    obtain ⟨l, ys, rfl, ho, hl, hd⟩ := r0
    unfold setM at h
    cases e : keyD k with
    | none => simp only [e] at h; cases h
    | some n =>
      simp only [e] at h
      split at h
      · rename_i hz
        cases h
        have ey := rd_key rk e
        subst ey
        exact .inr ⟨l, _, rfl, DPut.k (k := n) hl (by rw [Paired.length hd]; exact sizeOk_lt hz), q _ o (w.set1 (u := .dK (putK ys n z)) e1 ho hl trivial trivial e2 ⟨l, _, rfl, ho, upd_same, RKs.put hd rd n⟩)⟩
      · cases h
  | mt kvs =>
    obtain ⟨l, ys, rfl, ho, hl, hd⟩ := r0
    unfold setM at h
    cases k with
    | tuple ds =>
      cases e : keysD ds with
      | none => simp only [tkeyD, e] at h; cases h
      | some n =>
        simp only [tkeyD, e] at h
        split at h
        · rename_i hz
          cases h
          obtain ⟨t, us, rfl, ht, hu⟩ := RD.tupOf rk
          have eu := rds_keys hu e
          subst eu
          exact .inr ⟨l, _, rfl, DPut.t (k := n) hl (w.zh _ _ ht) (by rw [Paired.length hd]; exact sizeOk_lt hz), q _ o (w.set1 (u := .dT (putK ys n z)) e1 ho hl trivial trivial e2 ⟨l, _, rfl, ho, upd_same, RKs.put hd rd n⟩)⟩
        · cases h
    | _ => cases h
  | _ => cases h
end
/-- slot i [g] = f -/
def sPut (i : Nat) (f g : JF) : SF := fun ρ => match jFrz f ρ with
  | .ok (.tmp (.v d)) ρ1 => match slotOf ρ1 i with
    | some _ => match jFrz g ρ1 with
      | .ok (.tmp (.v k)) ρ2 => match (slotOf ρ2 i).bind fun a => setM a k d with
        | some a' => .nx (ρ2.set i (some a'))
        | none => .stuck
      | .exc c d ρ2 => .exc c d ρ2
      | _ => .stuck
    | none => .stuck
  | .exc c d ρ1 => .exc c d ρ1
  | _ => .stuck
section
variable {X : Cx} {C : Base} {W : WX} {i : Nat} {f g : JF} {x : Str} {e ix : Expr} {p tpos pos : Pos}
theorem tS_put {D : Ends} {σ : St} {H : Hp} (k : tS C W (sPut i f g) D σ H) : tAsg (tJ C W (jFrz f)) (gSub (tVar i) (tJ C W (jFrz g)) rSetA) D σ H := by
  obtain ⟨Zb, Z, o, ρ, w, k⟩ := k
  refine ⟨Zb, Z, o, ρ, [], w, ?_⟩
  unfold sPut at k
  cases hf : jFrz f ρ with
  | stuck => rw [hf] at k; exact k
  | exc c d ρ1 => rw [hf] at k; exact fun Z1 H1 o1 cl dx w1 x1 => k Z1 H1 o1 σ cl dx w1 x1
  | ok s ρ1 =>
    rw [hf] at k
    intro Z1 H1 o1 v T1 w1 a1
    cases s with
    | slot i => exact k.elim
    | tmp m =>
      cases m with
      | v d =>
        simp only at k
        have e1 : T1 = [] ++ [(v, M.v d)] := a1
        subst e1
        cases hs : slotOf ρ1 i with
        | none => rw [hs] at k; exact k.elim
        | some a =>
          rw [hs] at k
          simp only at k
          obtain ⟨xv, hx, _⟩ := w1.sl i a (slotOf_some hs)
          refine ⟨xv, hx, _, Z1, o1, ρ1, _, w1, ?_⟩
          cases hg : jFrz g ρ1 with
          | stuck => rw [hg] at k; exact k.elim
          | exc c d ρ2 => rw [hg] at k; exact fun Z2 H2 o2 cl dx w2 x2 => k Z2 H2 o2 σ cl dx (w2.cut rfl) x2
          | ok s2 ρ2 =>
            rw [hg] at k
            intro Z2 H2 o2 v2 T2 w2 a2
            cases s2 with
            | slot i => exact k.elim
            | tmp m2 =>
              cases m2 with
              | v kk =>
                simp only at k
                have e2 : T2 = [] ++ [(v, M.v d)] ++ [(v2, M.v kk)] := a2
                subst e2
                cases hs2 : slotOf ρ2 i with
                | none => rw [hs2] at k; exact k.elim
                | some a2 =>
                  rw [hs2] at k
                  simp only [Option.bind_some] at k
                  cases hm : setM a2 kk d with
                  | none => rw [hm] at k; exact k.elim
                  | some a' =>
                    rw [hm] at k
                    have r1 : RD C.cls Z2 v d := (w2.cut (T := [] ++ [(v, M.v d)]) rfl).last
                    have r2 : RD C.cls Z2 v2 kk := w2.last
                    exact Own.setItem (w2.cut (T := []) rfl) (slotOf_some hs2) hx r2 r1 hm fun H' o' w' => k Z2 H' o' σ w'
              | _ => exact k.elim
      | _ => exact k.elim
theorem js_put (hu : X.A.units + 1 < cLine) (hN : X.N[i]? = some x) (hv : Vis X.env.scope x) (he : JE X C W e f) (hi : JE X C W ix g) (hd : (x == ("__debug__" : Str)) = false := by decide) (hcd : (x == ("__classdict__" : Str)) = false := by decide)
    (ha : ∀ v, assign (.Subscript (.Name x p) ix tpos) X.env v = (do
      let ov ← holding [v] (eval (.Name x p) X.env)
      let iv ← holding [v, ov] (eval ix X.env)
      standAt tpos
      holding [v, ov, iv] (setItem ov iv v)
      release [v, ov, iv] []) := by intro _; rfl)
    (hs : swapsWithSole [.Subscript (.Name x p) ix tpos] e pos.line X.env = pure false := by rfl) (hw : swappedStores [.Subscript (.Name x p) ix tpos] e X.env = pure none := by rfl)
    (h1 : (assignEach [.Subscript (.Name x p) ix tpos] X.env).map (·.2) = [assign (.Subscript (.Name x p) ix tpos) X.env] := by rfl) : JS X C W (.Assign [.Subscript (.Name x p) ix tpos] e pos) (sPut i f g) :=
  PS.imp (ps_asg (je_frz he) (pg_sub (pe_var hN hv hd hcd) (je_frz hi) (set_any hu) ha) hs hw h1) fun _ _ _ => tS_put
/-- {} -/
def jDK : JF := fun ρ => .ok (.tmp (.md [])) ρ
def jDT : JF := fun ρ => .ok (.tmp (.mt [])) ρ
theorem je_dk : JE X C W (.Dict [] [] pos) jDK := by
  refine PE.imp pe_dnewK fun σ H Q k => ?_
  obtain ⟨Zb, Z, o, ρ, T, w, k⟩ := k
  intro p hp
  obtain ⟨o', w'⟩ := w.push (v := .ref p) (m := .md []) Sub.rfl' (Sub.new hp) (w.zh.updR (w.zh.none hp)) (fun a u e => .inl e) ⟨p, [], rfl, ⟨hp, w.zh.none hp⟩, upd_same, .nil⟩
  exact k Z _ o' _ _ w' rfl
theorem je_dt : JE X C W (.Dict [] [] pos) jDT := by
  refine PE.imp pe_dnewT fun σ H Q k => ?_
  obtain ⟨Zb, Z, o, ρ, T, w, k⟩ := k
  intro p hp
  obtain ⟨o', w'⟩ := w.push (v := .ref p) (m := .mt []) Sub.rfl' (Sub.new hp) (w.zh.updR (w.zh.none hp)) (fun a u e => .inl e) ⟨p, [], rfl, ⟨hp, w.zh.none hp⟩, upd_same, .nil⟩
  exact k Z _ o' _ _ w' rfl
end
end FW
end

section
set_option Elab.async false
set_option linter.all false
set_option maxRecDepth 100000
set_option autoImplicit false
/-! FW10: own exception classes: an exception made, raised, held as a value. -/
namespace FW
open PySem PySem.Spec PyProof.Rows L2

/-- what the written part says of an own exception class over a built-in one -/
structure XC (K : PySem.W.Frag) (C : Addr) (B newId initId : String) (bmB : List Value) : Prop where
  obj : ∃ nm q N bs bm sn sub ab col dd k0 k1 k2 k3 k5, K.lookup C = some (excClassObj nm q C N bs bm true sn sub ab col dd k0 k1 k2 k3 k5 newId) ∧ PySem.W.excTail bmB bm = true
  ov : PySem.W.excOver K C bmB = true
  dct : PySem.W.hasDictIn K C = true
  sa : PySem.W.findIn K (.ref C) "__setattr__" = some (some (.builtin "object.__setattr__"))
  exC : PySem.W.subIn K (.ref C) (.type "BaseException") = some true
  tyC : PySem.W.typeIn K (.ref C) = some (.type "type")
  kC : PySem.W.keepIn K (.ref C) = true
  xb : ExcBaseFacts B newId initId bmB
  xs : StoreFacts B bmB "object.__setattr__" "object"

section
variable {X : Cx} {pins : List (Addr × Obj)} {σ : St} {H : Hp} {s : Shared} {a C dx : Addr} {f : Str} {y : V} {u : Value} {Q : Unit → Shared → Prop} {E : Value → Shared → Prop} {A : Around} {B newId initId : String} {bmB : List Value}
/-- the first field of an exception that is being made -/
theorem xc_store (T : XC X.K C B newId initId bmB) (I : Inv X pins σ H s) (e : H a = some (exo a C none)) (hno : PySem.W.takerIn X.K C f = some none) (ry : RelV y u)
    (h : ∀ dx s', H dx = none → dx ≠ a → Inv X pins σ (upd (upd H dx (exd dx [(f, y)])) a (exo a C (some dx))) s' → Q () s') : wpAny (model X.prog X.w) A (setAttr (.ref a) f u) Q E s := by
  obtain ⟨t1, ho⟩ := exo_at I.hok e
  have hsz : a < s.heap.objs.size := Heap.lt_size ho
  refine PySem.W.set_plain I.kIn (od := none) ⟨ho, rfl, rfl, trivial⟩ T.sa ?_
  refine PySem.W.osa_openX (od := none) (s := { s with toks := s.toks + 1 }) T.xs I.kIn ⟨ho, rfl, rfl, trivial⟩ T.ov hno fun b => ?_
  obtain ⟨cd, hc, hd'⟩ := PySem.W.any_some T.dct
  refine wpAny_bind (wpAny_pure (wpAny_bind (PySem.W.instanceDict_exc ho (PySem.W.looks_clsIn I.kIn hc) hd' ?_)))
  have hnd : H s.heap.objs.size = none := I.hok.fresh (Nat.le_refl _)
  have dne : s.heap.objs.size ≠ a := Nat.ne_of_gt hsz
  obtain ⟨h1, eh1⟩ : ∃ h1 : Heap, h1 = (s.heap.push (PySem.W.dictOf [] 0)).update a fun o => { o with dict := some s.heap.objs.size } := ⟨_, rfl⟩
  have g1 : h1.get? s.heap.objs.size = some (PySem.W.dictOf [] 0) := by
    rw [eh1]
    exact (Heap.get?_update_ne _ _ _ _ dne).trans (Heap.get?_push_at rfl rfl)
  have ga : h1.get? a = some ({ cls := .ref C, dict := some s.heap.objs.size, data := .fields #[.ref t1, .none, .none, .none, .bool false, .none] } : Obj) := by
    rw [eh1]
    exact Heap.get?_update_self _ (Heap.get?_push_of_some _ ho) rfl
  have go : ∀ b o, b ≠ a → s.heap.get? b = some o → h1.get? b = some o := fun b o hb z => by
    rw [eh1]
    exact (Heap.get?_update_ne _ _ _ _ hb).trans (Heap.get?_push_of_some _ z)
  have hnd1 : h1.Ns s.heap.objs.size (fun _ => none) := ⟨_, #[], _, g1, rfl, fun e he => absurd he (by simp), fun _ => rfl⟩
  rw [← eh1]
  show wpAny _ _ (Builtin.ObjectAttr.storeInDict s.heap.objs.size (.str f s.toks) f u) _ _ _
  refine HandSPX.store_in_new hnd1 fun h' tk' hn' hs => ?_
  have na : ∀ {b : Addr}, H b = none → b ≠ a := fun {b} n z => by
    rw [z, e] at n
    cases n
  have nd : ∀ {b : Addr} {o : Obj}, s.heap.get? b = some o → b ≠ s.heap.objs.size := fun {b o} q => Nat.ne_of_lt (Heap.lt_size q)
  have k : ∀ b o, b ≠ a → s.heap.get? b = some o → h'.get? b = some o := fun b o hb z => (hs.2 b (nd z)).trans (go b o hb z)
  have hx := (hs.2 a (Ne.symm dne)).trans ga
  have U : Un X.fs [] H (upd (upd H s.heap.objs.size (exd s.heap.objs.size [(f, y)])) a (exo a C (some s.heap.objs.size))) s.heap h' := {
    keep := fun b o q n _ _ => k b o (na n) q
    slot := fun b o q n _ _ => ⟨o.slots, k b o (na n) q⟩
    free := fun b o q n _ => by rw [upd_ne (na n), upd_ne (nd q)]; exact n
    there := fun b o q _ => by
      by_cases hb : b = a
      · exact ⟨_, by rw [hb]; exact hx⟩
      · exact ⟨o, k b o hb q⟩
    tups := fun b xs q => by rw [upd_ne (at_ne e q exo_tup), upd_ne (ne_of_none q hnd)]; exact q
    frzs := fun b o v q => by rw [upd_ne (at_ne e q exo_frz), upd_ne (ne_of_none q hnd)]; exact q
    tbls := fun b ps q => ⟨#[], by rw [upd_ne (at_ne e q exo_tbl), upd_ne (ne_of_none q hnd), q]; simp⟩ }
  refine h s.heap.objs.size _ hnd dne (I.un (t' := tk') U fun b o q => ?_)
  by_cases hb : b = a
  · subst hb
    rw [upd_same] at q
    cases q
    exact exo_ok hx
  · rw [upd_ne hb] at q
    by_cases hd : b = s.heap.objs.size
    · subst hd
      rw [upd_same] at q
      cases q
      exact exd_ok hn' (relO_put (fs := []) ry fun g => True.intro)
    · rw [upd_ne hd] at q
      exact (I.hok b o q).stay (fun c v hc z => k c v (by
          rcases hc with hc | hc
          · rw [hc]
            exact hb
          · exact at_ne e hc exo_own) z)
        (fun c hc => by rw [upd_ne (at_ne e hc exo_own), upd_ne (ne_of_none hc hnd)]; exact hc) (fun c xs hc => by rw [upd_ne (at_ne e hc exo_tup), upd_ne (ne_of_none hc hnd)]; exact hc)
/-- the built-in's own __init__ -/
theorem xc_init {us : List Value} {Q : Value → Shared → Prop} (T : XC X.K C B newId initId bmB) (I : Inv X pins σ H s) (e : H a = some (exo a C none)) (hl : us.length ≤ sizeLine) (h : ∀ s', Inv X pins σ H s' → Q .none s') :
    wpAny (model X.prog X.w) A (call (.builtin initId) (.ref a :: us)) Q E s := by
  obtain ⟨nm, q, N, bs, bm, sn, sub, ab, col, dd, k0, k1, k2, k3, k5, hC, hbm⟩ := T.obj
  obtain ⟨t1, ho⟩ := exo_at I.hok e
  obtain ⟨hp, g, d, t, os⟩ := s
  refine wpAny_call (PySem.HandSPX.init_base T.xb (fun Y => PySem.W.excTail_contains Y bm hbm) (I.kIn _ _ hC) ho hl fun h' t2 k hx => ?_)
  have J := I.write (t' := t) (x := a) (e := a) (o := exo a C none) (by rw [e]; exact True.intro) (.inl rfl) k ⟨_, hx⟩ (exo_ok hx)
  have eu : upd H a (exo a C none) = H := funext fun b => by
    by_cases hb : b = a
    · rw [hb, upd_same, e]
    · exact upd_ne hb
  rw [eu] at J
  exact h _ J
end

/-! ### BASE.__init__(self, text) -/
def tXI (K : PySem.W.Frag) (initId : String) (ta : TA) : TE := fun σ H Q => ta σ H fun vs H1 => ∃ (a C : Addr) (ws : List V) (B newId : String) (bmB : List Value), vs = .ref a :: ws ∧ ws.length ≤ 1000 ∧ XC K C B newId initId bmB ∧ H1 a = some (exo a C none) ∧ Q .non H1
section
variable {X : Cx} {e : Expr} {es : List Expr} {ta : TA} {p1 p2 pos : Pos} {initId : String}
theorem xi_args {ps : Pos} {s : Shared} {pins : List (Addr × Obj)} {σ : St} {H : Hp} {Q : VK} (ha : PA X (e :: es) ta) (I : Inv X pins σ H s) (h : tXI X.K initId ta σ H Q) (he : starEach (e :: es) X.env = (false, eval e X.env) :: starEach es X.env) (hpl : (backTo ps (starEach es X.env)).any (·.1) = false) :
    wpAny (model X.prog X.w) X.A (callWith ps (.builtin initId) [] (backTo ps (starEach (e :: es) X.env)) []) (EP X pins σ Q) X.xe s := by
  refine PyProof.Rows.callWith_method1 (thn (ha.run ps pins _ σ H _ I h) fun us s1 ⟨vs, H1, I1, r1, a, C, ws, B, newId, bmB, ev, hl, T, ea, q⟩ => ?_) he hpl
  subst ev
  cases r1 with
  | @cons _ u0 _ ur ra rw' =>
    obtain rfl : u0 = Value.ref a := ra
    have hlen : ur.length ≤ sizeLine := by
      rw [← Paired.length rw', sizeLine_eq]
      omega
    exact xc_init T I1 ea hlen fun s' J => ⟨.non, H1, J, rfl, q⟩
/-- BASE.__init__(self, text), BASE a class of the program -/
theorem pe_xi_own {C0 : Addr} {x : Str} {pl : Sem Bool} (hg : Gl X x) (hm : X.mg x = some (.ref C0)) (hsp : PySem.W.specialIn X.K (.ref C0) "__getattribute__" = some (some (.builtin "type.__getattribute__"))) (hr : PySem.W.readsIn X.K C0 (.type "type") = true)
    (hf : PySem.W.findCls X.K (.ref C0) (.type "type") "__init__" = some (.val (.builtin initId))) (hh : PySem.W.handedIn (.builtin initId) = true) (ha : PA X (e :: es) ta)
    (hdb : (x == ("__debug__" : Str)) = false := by decide)
    (hc : eval (.Call (.Attribute (.Name x p1) "__init__" p2) (e :: es) [] pos) X.env = (do
      let ov ← eval (.Name x p1) X.env
      standAt p2.atName
      let (f, first) ← holding [ov] (getMethod ov "__init__" pl)
      callWith pos f first (backTo pos (starEach (e :: es) X.env)) (backToKw pos (keywordEach [] X.env))) := by rfl)
    (he : starEach (e :: es) X.env = (false, eval e X.env) :: starEach es X.env := by rfl) (hpl : (backTo pos (starEach es X.env)).any (·.1) = false := by rfl) :
    PE X (.Call (.Attribute (.Name x p1) "__init__" p2) (e :: es) [] pos) (tXI X.K initId ta) := by
  refine ⟨fun pins s σ H Q I h => ?_⟩
  refine PySem.W.methodCall_KW (ld_glob I hg hm ?_ hdb) hc
  refine PySem.W.method_cls I.kIn hsp (PySem.W.cls_value I.kIn hr hf hh ?_)
  exact xi_args ha (I.tok _) h he hpl
/-- .., BASE a built-in -/
theorem pe_xi_ty {T : String} {x : Str} {pl : Sem Bool} (hg : Gl X x) (hm : X.mg x = none) (hbt : bootBuiltins x = some (.type T)) (hty : typeOf (.type T) = pure (.type "type")) (hstub : Manifest.isStub T = false)
    (hf : PySem.W.findCls X.K (.type T) (.type "type") "__init__" = some (.val (.builtin initId))) (hh : PySem.W.handedIn (.builtin initId) = true) (ha : PA X (e :: es) ta)
    (hdb : (x == ("__debug__" : Str)) = false := by decide) (hnm : x ≠ "__name__" := by decide)
    (hc : eval (.Call (.Attribute (.Name x p1) "__init__" p2) (e :: es) [] pos) X.env = (do
      let ov ← eval (.Name x p1) X.env
      standAt p2.atName
      let (f, first) ← holding [ov] (getMethod ov "__init__" pl)
      callWith pos f first (backTo pos (starEach (e :: es) X.env)) (backToKw pos (keywordEach [] X.env))) := by rfl)
    (he : starEach (e :: es) X.env = (false, eval e X.env) :: starEach es X.env := by rfl) (hpl : (backTo pos (starEach es X.env)).any (·.1) = false := by rfl) :
    PE X (.Call (.Attribute (.Name x p1) "__init__" p2) (e :: es) [] pos) (tXI X.K initId ta) := by
  refine ⟨fun pins s σ H Q I h => ?_⟩
  refine PySem.W.methodCall_KW (ld_blt I hg hm hbt ?_ hnm hdb) hc
  obtain ⟨m, fr⟩ := I.fr
  refine PySem.W.method_type fr I.ok.mod.kin hty hstub hf hh ?_
  exact xi_args ha (I.tok _) h he hpl
end
/-! ### self.f = v -/
def sXO (K : PySem.W.Frag) (f : Str) (to te : TE) : TS := fun D σ H => te σ H fun y H1 => to σ H1 fun x H2 => ∃ (a C : Addr) (B newId initId : String) (bmB : List Value), x = .ref a ∧ XC K C B newId initId bmB ∧ PySem.W.takerIn K C f = some none ∧
  H2 a = some (exo a C none) ∧ ∀ dx, H2 dx = none → dx ≠ a → D.nx σ (upd (upd H2 dx (exd dx [(f, y)])) a (exo a C (some dx)))
theorem ps_xo {X : Cx} {o e : Expr} {to te : TE} {f : Str} {p' pos : Pos} (ho : PE X o to) (he : PE X e te) (hs : swapsWith e (some (.Attribute o f p')) pos.line X.env = pure false := by rfl) : PS X (.Assign [.Attribute o f p'] e pos) (sXO X.K f to te) := by
  refine ⟨fun pins s σ H D I h => ?_⟩
  refine plainObj_wpAny_Assign_Attribute (thn (he.run pins s σ H _ I h) fun v s1 ⟨y, H1, I1, r1, q1⟩ => thn (ho.run pins s1 σ H1 _ I1 q1) fun u s2 ⟨x, H2, I2, r2, a, C, B, newId, initId, bmB, ex, T, hno, ea, q⟩ => ?_) hs
  subst ex
  obtain rfl : u = Value.ref a := r2
  exact xc_store T I2 ea hno r1 fun dx s' n ne J => ⟨σ, _, J, q dx n ne⟩

/-! ### the class's own __init__ -/
def spI (C : Addr) (f : Str) : Sp := fun vs H Q _ => ∃ (a : Addr) (y : V), vs = [.ref a, y] ∧ H a = some (exo a C none) ∧ ∀ dx, H dx = none → dx ≠ a → Q .non (upd (upd H dx (exd dx [(f, y)])) a (exo a C (some dx)))
section
variable {P : Program} {w : World} {K : PySem.W.Frag} {mg : Str → Option Value} {base : Heap}
theorem xc_fn {x qual v f : Str} {params : Arguments} {body : List Stmt} {scope : Scope} {dvs : List V} {kws : List (Str × V)} {fI C : Addr} {fd : FuncData} {k : Nat} {B newId initId : String} {bmB : List Value} (F : FunD K x qual params body scope dvs kws fI fd) (S : FnScope ["self", v] ["self", v] scope)
    (T : XC K C B newId initId bmB) (hno : PySem.W.takerIn K C f = some none)
    (hb : ∀ (X : Cx), X.prog = P → X.w = w → X.K = K → X.mg = mg → X.N = (["self", v] : List Str) → X.env.scope = scope → ∃ st1 st2 t1, body = [st1, st2] ∧ PS X st1 (tDrop (tXI K initId (tCons (tVar 0) t1))) ∧ (∀ σ H Q, (∀ x, Q [x] H) → t1 σ H Q) ∧ PS X st2 (sXO K f (tVar 0) (tVar 1))) :
    FnOk P w K mg base C8.CX0 (k + 1) fI fd ["self", v] (spI C f) := by
  refine F.ok S (fun vs H Q E h => ?_) fun cdv A outer s H vs Q E hr h => ?_
  · obtain ⟨a, y, rfl, _⟩ := h
    rfl
  · obtain ⟨a, y, rfl, ea, q⟩ := h
    obtain ⟨st1, st2, t1, rfl, h1, ht1, h2⟩ := hb (cxOf C8.CX0 P w K mg base ["self", v] qual scope fI cdv A outer s H E) rfl rfl rfl rfl rfl rfl
    refine ⟨_, pss_cons h1 (pss_cons h2 pss_nil), ?_⟩
    refine ⟨.ref a, rfl, ht1 _ _ _ fun x => ⟨a, C, [x], B, newId, bmB, rfl, by simp, T, ea, ?_⟩⟩
    exact ⟨y, rfl, .ref a, rfl, a, C, B, newId, initId, bmB, rfl, T, hno, ea, fun dx n ne => q dx n ne⟩
end

/-! ### C(e) -/
section
variable {X : Cx} {pins : List (Addr × Obj)} {σ : St} {H : Hp} {s : Shared} {C : Addr} {f v : Str} {y : V} {u : Value} {Q : Value → Shared → Prop} {B newId initId : String} {bmB : List Value} {fI : Addr} {fd : FuncData} {k : Nat}
theorem xc_make (T : XC X.K C B newId initId bmB) (iC : PySem.W.findIn X.K (.ref C) "__init__" = some (some (.ref fI))) (tI : PySem.W.typeIn X.K (.ref fI) = some (.type "function")) (F1 : FnOk X.prog X.w X.K X.mg X.base C8.CX0 k fI fd ["self", v] (spI C f)) (hr : Room (k + 1) X.A) (hb : Binds X.K fd ["self", v] [])
    (I : Inv X pins σ H s) (ry : RelV y u)
    (h : ∀ (a dx : Addr) (G : Heap) (s' : Shared) (t0 : Addr), (∀ b o, G.get? b = some o → s'.heap.get? b = some o) → G.get? a = none → s'.heap.get? a = some ({ cls := .ref C, dict := some dx, data := .fields #[.ref t0, .none, .none, .none, .bool false, .none] } : Obj) →
      H a = none → H dx = none → dx ≠ a → AllBare s'.gens → Inv X pins σ (upd H dx (.xd [(f, y)])) { s' with heap := G } → Q (.ref a) s') :
    wpAny (model X.prog X.w) X.A (call (.ref C) [u]) Q X.xe s := by
  obtain ⟨nm, q, N, bs, bm, sn, sub, ab, col, dd, k0, k1, k2, k3, k5, hC, hbm⟩ := T.obj
  obtain ⟨hp, g, dr, tk, os⟩ := s
  have hsz : hp.objs.size ≤ hp.objs.size + 1 := Nat.le_succ _
  have hn : H (hp.objs.size + 1) = none := I.hok.fresh hsz
  have kk : ∀ b o, hp.get? b = some o → ((hp.push (PySem.W.kdv_tup [u])).push (PySem.HandSPX.excO C hp.objs.size)).get? b = some o := fun b o e => Heap.get?_push_of_some _ (Heap.get?_push_of_some _ e)
  have hget : ((hp.push (PySem.W.kdv_tup [u])).push (PySem.HandSPX.excO C hp.objs.size)).get? (hp.objs.size + 1) = some (PySem.HandSPX.excO C hp.objs.size) := by heap_get
  have I2 : Inv X pins σ (upd H (hp.objs.size + 1) (exo (hp.objs.size + 1) C none)) ⟨(hp.push (PySem.W.kdv_tup [u])).push (PySem.HandSPX.excO C hp.objs.size), g, dr, tk, os⟩ :=
    I.laid (t' := tk) (a := hp.objs.size + 1) (o := exo (hp.objs.size + 1) C none) (h' := (hp.push (PySem.W.kdv_tup [u])).push (PySem.HandSPX.excO C hp.objs.size)) kk hsz (exo_ok hget)
  have hq : spI C f [V.ref (hp.objs.size + 1), y] (upd H (hp.objs.size + 1) (exo (hp.objs.size + 1) C none)) (fun r H2 => r = .non ∧ ∃ dx, H dx = none ∧ dx ≠ hp.objs.size + 1 ∧ H2 = upd (upd (upd H (hp.objs.size + 1) (exo (hp.objs.size + 1) C none)) dx (exd dx [(f, y)])) (hp.objs.size + 1) (exo (hp.objs.size + 1) C (some dx))) (fun _ _ _ => False) :=
    ⟨_, _, rfl, upd_same, fun dx n ne => ⟨rfl, dx, by rw [upd_ne ne] at n; exact n, ne, rfl⟩⟩
  refine wpAny_call (PySem.HandSPX.call_own T.xb (fun Y => PySem.W.excTail_contains Y bm hbm) (I.kIn _ _ hC) (PySem.W.looks_findIn I.kIn iC) (fun self => PySem.W.bind_fn I.kIn self tI) (by rw [sizeLine_eq]; simp)
    (codeAny_mono (F1.run _ X.stack _ _ ⟨[.ref (hp.objs.size + 1), u], []⟩ [.ref (hp.objs.size + 1), u] _ _ (fun _ _ _ => False) (hr.make C [u] []) (I2.env0.make C [u] []) (hb _ [.ref (hp.objs.size + 1), u] I2.kIn rfl) (.cons (show RelV (.ref (hp.objs.size + 1)) (.ref (hp.objs.size + 1)) from rfl) (.cons ry .nil)) hq) fun r s' hq' => ?_))
  cases r with
  | error er => exact hq'.elim
  | ok fl =>
    cases fl with
    | ret u =>
      obtain ⟨v', H2, os2, bare2, un2, hok2, rv, ev, dx, n, ne, eH⟩ := hq'
      subst ev
      obtain ⟨h2, g2, d2, t2, os'⟩ := s'
      have ea : H2 (hp.objs.size + 1) = some (exo (hp.objs.size + 1) C (some dx)) := by rw [eH, upd_same]
      have ed : H2 dx = some (exd dx [(f, y)]) := by rw [eH, upd_ne ne, upd_same]
      obtain ⟨t0, G, J, kG, ge, hoe, na⟩ := mk_end0 (d2 := d2) (t2 := t2) I hsz kk un2 hok2 os2 bare2 ea ed n
      have eF : upd (L2.del H2 (hp.objs.size + 1)) dx (.xd [(f, y)]) = upd H dx (.xd [(f, y)]) := funext fun b => by
        by_cases hb : b = dx
        · rw [hb, upd_same, upd_same]
        · rw [upd_ne hb, upd_ne hb]
          by_cases hb2 : b = hp.objs.size + 1
          · rw [hb2, del_same, hn]
          · rw [del_ne hb2, eH, upd_ne hb2, upd_ne hb, upd_ne hb2]
      rw [eF] at J
      exact ⟨rv, h (hp.objs.size + 1) dx G _ t0 kG ge hoe hn n ne bare2 J⟩
    | next => exact False.elim hq'
    | brk => exact False.elim hq'
    | cont => exact False.elim hq'
end
end FW
end

section
set_option Elab.async false
set_option linter.all false
set_option maxRecDepth 100000
set_option autoImplicit false
/-! FW11: raise, exceptions as values, try. -/
namespace FW
open PySem PySem.Spec PyProof.Rows L2

/-- an own exception class as it stands behind the top: its name, its field, its address -/
structure XD (P : Program) (w : World) (K : PySem.W.Frag) (mg : Str → Option Value) (base : Heap) (x f : Str) (C : Addr) : Prop where
  ex : ∃ (B newId initId : String) (bmB : List Value) (fI : Addr) (fd : FuncData) (v : Str), XC K C B newId initId bmB ∧ PySem.W.findIn K (.ref C) "__init__" = some (some (.ref fI)) ∧ PySem.W.typeIn K (.ref fI) = some (.type "function") ∧
    FnOk P w K mg base C8.CX0 2 fI fd ["self", v] (spI C f) ∧ Binds K fd ["self", v] []
  g : mg x = some (.ref C)

def tMkX (C : Addr) (f : Str) (ta : TA) : St → Hp → XK → Prop := fun σ H Q => ta σ H fun vs H1 => ∃ y, vs = [y] ∧ ∀ dx, H1 dx = none → Q (.ref C) (some dx) (upd H1 dx (.xd [(f, y)]))
def tPeX (C : Addr) (f : Str) (ta : TA) : TE := fun σ H Q => ta σ H fun vs H1 => ∃ y, vs = [y] ∧ ∀ a dx, H1 a = none → H1 dx = none → dx ≠ a → Q (.ref a) (upd (upd H1 dx (.xd [(f, y)])) a (exV a C dx))
section
variable {X : Cx} {x f : Str} {C : Addr} {e : Expr} {ta : TA} {p pos : Pos}
theorem xd_call (T : XD X.prog X.w X.K X.mg X.base x f C) (hr : Room 3 X.A) (hg : Gl X x) (ha : PA X [e] ta) {pins : List (Addr × Obj)} {s : Shared} {σ : St} {H : Hp} {Q : Value → Shared → Prop} {Qa : List V → Hp → Prop} (I : Inv X pins σ H s) (h : ta σ H Qa)
    (k : ∀ (y : V) (u : Value) (s1 : Shared) (H1 : Hp), Inv X pins σ H1 s1 → RelV y u → Qa [y] H1 → (∀ (Q' : Value → Shared → Prop), (∀ (a dx : Addr) (G : Heap) (s' : Shared) (t0 : Addr), (∀ b o, G.get? b = some o → s'.heap.get? b = some o) → G.get? a = none → s'.heap.get? a = some ({ cls := .ref C, dict := some dx, data := .fields #[.ref t0, .none, .none, .none, .bool false, .none] } : Obj) →
      H1 a = none → H1 dx = none → dx ≠ a → AllBare s'.gens → Inv X pins σ (upd H1 dx (.xd [(f, y)])) { s' with heap := G } → Q' (.ref a) s') → wpAny (model X.prog X.w) X.A (call (.ref C) [u]) Q' X.xe s1) → wpAny (model X.prog X.w) X.A (call (.ref C) [u]) Q X.xe s1)
    (one : ∀ vs H1, Qa vs H1 → ∃ y, vs = [y])
    (hdb : (x == ("__debug__" : Str)) = false := by decide) (he : starEach [e] X.env = (false, eval e X.env) :: starEach [] X.env := by rfl) (hpl : (backTo pos (starEach [] X.env)).any (·.1) = false := by rfl) :
    wpAny (model X.prog X.w) X.A (eval (.Call (.Name x p) [e] [] pos) X.env) Q X.xe s := by
  obtain ⟨B, newId, initId, bmB, fI, fd, v, T1, iC, tI, F1, hb⟩ := T.ex
  refine wpAny_Call_Name_kw (ld_glob I hg T.g ?_ hdb)
  refine PySem.W.callWith_K (h₀ := X.base) I.ok.mod.kin T1.kC (thn (ha.run pos pins s σ H _ I h) fun us s1 ⟨vs, H1, I1, r1, q1⟩ => ⟨I1.kIn, ?_⟩) he hpl
  show wpAny _ _ (call (.ref C) us) _ _ _
  obtain ⟨y, rfl⟩ := one vs H1 q1
  cases r1 with
  | @cons _ u _ ur ru rr =>
    cases rr
    exact k y u s1 H1 I1 ru q1 fun Q' h' => xc_make T1 iC tI F1 hr hb I1 ru h'
theorem pmk_x (T : XD X.prog X.w X.K X.mg X.base x f C) (hr : Room 3 X.A) (hg : Gl X x) (ha : PA X [e] ta) (hdb : (x == ("__debug__" : Str)) = false := by decide) (he : starEach [e] X.env = (false, eval e X.env) :: starEach [] X.env := by rfl) (hpl : (backTo pos (starEach [] X.env)).any (·.1) = false := by rfl) :
    PMk X (.Call (.Name x p) [e] [] pos) (tMkX C f ta) := by
  intro pins s σ H Q I h
  obtain ⟨B, newId, initId, bmB, fI, fd, v, T1, _⟩ := T.ex
  refine xd_call T hr hg ha I h (fun y u s1 H1 I1 ru q1 mk => mk _ fun a dx G s' t0 kG ga ha' na nd ne ag J => ?_) (fun vs H1 ⟨y, e, _⟩ => ⟨y, e⟩) hdb he hpl
  obtain ⟨y', ey, q⟩ := q1
  cases ey
  obtain ⟨h2, g2, d2, t2, os2⟩ := s'
  exact ⟨a, _, _, ⟨G, g2, d2, t2, os2⟩, _, .ref C, some dx, rfl, J, kG, ga, ha', ⟨rfl, rfl⟩, rfl, rfl, by rw [upd_ne (Ne.symm ne)]; exact na, rfl, ag, raises_own T1.exC T1.tyC, q dx nd⟩
theorem pe_x (T : XD X.prog X.w X.K X.mg X.base x f C) (hr : Room 3 X.A) (hg : Gl X x) (ha : PA X [e] ta) (hdb : (x == ("__debug__" : Str)) = false := by decide) (he : starEach [e] X.env = (false, eval e X.env) :: starEach [] X.env := by rfl) (hpl : (backTo pos (starEach [] X.env)).any (·.1) = false := by rfl) :
    PE X (.Call (.Name x p) [e] [] pos) (tPeX C f ta) := by
  refine ⟨fun pins s σ H Q I h => ?_⟩
  refine xd_call T hr hg ha I h (fun y u s1 H1 I1 ru q1 mk => mk _ fun a dx G s' t0 kG ga ha' na nd ne ag J => ?_) (fun vs H1 ⟨y, e, _⟩ => ⟨y, e⟩) hdb he hpl
  obtain ⟨y', ey, q⟩ := q1
  cases ey
  obtain ⟨h2, g2, d2, t2, os2⟩ := s'
  have na' : upd H1 dx (.xd [(f, y)]) a = none := by rw [upd_ne (Ne.symm ne)]; exact na
  exact ⟨.ref a, _, J.laidN (o := exV a C dx) (t' := t2) kG ga na' ⟨⟨_, _, ha', ⟨rfl, rfl⟩, rfl⟩, ⟨_, ha'⟩, fun h1 h2 ⟨oe, vs, z⟩ k => ⟨oe, vs, k _ z.1, z.2⟩⟩, rfl, q a dx na nd ne⟩
end

/-- an exception as data -/
abbrev excD (c : Str) (d : D) : D := .dict [(.str c, d)]
def oneV (ρ : Env) : List Src → Option D
  | [s] => match s.get ρ with
    | some (.v d) => some d
    | _ => none
  | _ => none
def jX (c : Str) (g : AF) : JF := fun ρ => (g ρ).bind fun ss ρ1 => match oneV ρ1 ss with
  | some d => .ok (.tmp (.v (excD c d))) ρ1
  | none => .stuck
def sRaise (c : Str) (g : AF) : SF := fun ρ => match g ρ with
  | .ok ss ρ1 => match oneV ρ1 ss with
    | some d => .exc c d ρ1
    | none => .stuck
  | .exc c d ρ1 => .exc c d ρ1
  | .stuck => .stuck
section
variable {X : Cx} {C : Base} {W : WX} {x f : Str} {cl : Addr} {e : Expr} {g : AF} {p pos : Pos}
theorem one_rd {Z H : Hp} {o : Addr → Option Nat} {σ : St} {ρ : Env} {T T' : List (V × M)} {vs : List V} {ss : List Src} {d : D} (w : Own C Z H o σ ρ T') (a : Ats σ T T' vs ss) (h : oneV ρ ss = some d) : ∃ y, vs = [y] ∧ RD C.cls Z y d := by
  unfold oneV at h
  split at h
  · rename_i s
    split at h
    · rename_i d' hs
      cases h
      obtain ⟨y, r, T1, rfl, h1, h2⟩ := a
      obtain ⟨rfl, e2⟩ := h2
      obtain ⟨P, r⟩ := h1.rm w (R := []) (by rw [e2]; simp) hs
      exact ⟨y, rfl, r⟩
    · cases h
  · cases h
theorem Own.exd {Z H : Hp} {o : Addr → Option Nat} {σ : St} {ρ : Env} {T : List (V × M)} {dx : Addr} {u : HO} (w : Own C Z H o σ ρ T) (n : H dx = none) (hu : ∀ ps, u ≠ .tbl ps := by (intro ps z; cases z)) : ∃ o', Own C (upd Z dx u) (upd H dx u) o' σ ρ T := by
  obtain ⟨o', w'⟩ := w.push (v := .non) (m := .v .none) (Sub.new (w.zh.none n)) (Sub.new n) (fun a q e => by
    by_cases h : a = dx
    · subst h
      rw [upd_same] at e ⊢
      exact e
    · rw [upd_ne h] at e ⊢
      exact w.zh a q e) (fun a q e => by
    by_cases h : a = dx
    · subst h
      rw [upd_same] at e
      cases e
      exact .inr ⟨n, hu⟩
    · rw [upd_ne h] at e
      exact .inl e) .non
  exact ⟨o', w'.drop⟩
theorem js_raise (T : XD X.prog X.w X.K X.mg X.base x f cl) (hcl : C.cls.f x = some (cl, f)) (hr : Room 3 X.A) (hg : Gl X x) (hc : X.calm = true) (tk : Takes X W) (ha : JA X C W [e] g)
    (hdb : (x == ("__debug__" : Str)) = false := by decide) (he : starEach [e] X.env = (false, eval e X.env) :: starEach [] X.env := by rfl) (hpl : (backTo pos (starEach [] X.env)).any (·.1) = false := by rfl) {pos' : Pos} :
    JS X C W (.Raise (some (.Call (.Name x p) [e] [] pos)) none pos') (sRaise x g) := by
  refine PS.imp (ps_raise hc tk (pmk_x T hr hg ha hdb he hpl)) fun D σ H k => ?_
  obtain ⟨Zb, Z, o, ρ, w, k⟩ := k
  refine ⟨Zb, Z, o, ρ, [], w, ?_⟩
  unfold sRaise at k
  cases hf : g ρ with
  | stuck => rw [hf] at k; exact k
  | exc c d ρ1 =>
    rw [hf] at k
    exact fun Z H o cl dx w x => k Z H o σ cl dx w x
  | ok ss ρ1 =>
    rw [hf] at k
    simp only at k
    intro Z1 H1 o1 vs T1 w1 a1
    cases h1 : oneV ρ1 ss with
    | none => rw [h1] at k; exact k.elim
    | some d =>
      rw [h1] at k
      obtain ⟨y, rfl, r⟩ := one_rd w1 a1 h1
      refine ⟨y, rfl, fun dx n => ?_⟩
      obtain ⟨R, eR⟩ := a1.pre
      have w0 := w1.cut eR
      obtain ⟨o2, w2⟩ := w0.exd (u := .xd [(f, y)]) n
      exact k _ _ o2 σ cl dx w2 ⟨f, y, hcl, upd_same, upd_same, (Sub.new (w1.zh.none n)).dp _ _ r⟩
theorem je_x (T : XD X.prog X.w X.K X.mg X.base x f cl) (hcl : C.cls.f x = some (cl, f)) (hr : Room 3 X.A) (hg : Gl X x) (ha : JA X C W [e] g)
    (hdb : (x == ("__debug__" : Str)) = false := by decide) (he : starEach [e] X.env = (false, eval e X.env) :: starEach [] X.env := by rfl) (hpl : (backTo pos (starEach [] X.env)).any (·.1) = false := by rfl) :
    JE X C W (.Call (.Name x p) [e] [] pos) (jX x g) := by
  refine PE.imp (pe_x T hr hg ha hdb he hpl) fun σ H Q k => ?_
  obtain ⟨Zb, Z, o, ρ, T, w, k⟩ := k
  refine ⟨Zb, Z, o, ρ, T, w, ?_⟩
  unfold jX at k
  cases hf : g ρ with
  | stuck => rw [hf] at k; exact k
  | exc c d ρ1 => rw [hf] at k; exact k
  | ok ss ρ1 =>
    rw [hf] at k
    simp only [Res.bind_ok] at k
    intro Z1 H1 o1 vs T1 w1 a1
    cases h1 : oneV ρ1 ss with
    | none => rw [h1] at k; exact k.elim
    | some d =>
      rw [h1] at k
      obtain ⟨y, rfl, r⟩ := one_rd w1 a1 h1
      refine ⟨y, rfl, fun a dx na nd ne => ?_⟩
      obtain ⟨R, eR⟩ := a1.pre
      have w0 := w1.cut eR
      obtain ⟨o2, w2⟩ := w0.exd (u := .xd [(f, y)]) nd
      have na2 : upd H1 dx (.xd [(f, y)]) a = none := by rw [upd_ne (Ne.symm ne)]; exact na
      obtain ⟨o3, w3⟩ := w2.exd (u := exV a cl dx) na2
      have hz1 : Sub Z1 (upd Z1 dx (.xd [(f, y)])) := Sub.new (w1.zh.none nd)
      have hz2 : Sub (upd Z1 dx (.xd [(f, y)])) (upd (upd Z1 dx (.xd [(f, y)])) a (exV a cl dx)) := Sub.new (w2.zh.none na2)
      obtain ⟨o4, w4⟩ := w3.push (v := .ref a) (m := .v (excD x d)) Sub.rfl' Sub.rfl' w3.zh (fun a u e => .inl e) (RD.exc hcl upd_same (by rw [upd_ne ne, upd_same]) ((hz1.trans hz2).dp _ _ r))
      exact k _ _ o4 (.ref a) _ w4 rfl
end
end FW
end

section
set_option Elab.async false
set_option linter.all false
set_option maxRecDepth 100000
set_option autoImplicit false
/-! FW12: try .. except: the caught exception is data. -/
namespace FW
open PySem PySem.Spec PyProof.Rows L2

/-! ### what an except clause asks -/
def HTest (X : Cx) (te : Expr) (tst : Value → Option Bool) : Prop :=
  ∀ {a : Addr} {pn pins : List (Addr × Obj)} {σ : St} {H : Hp} {s : Shared} {cls : Value} {b : Bool} {Q : Bool → Shared → Prop} {E : Value → Shared → Prop}, Inv (X.suite a pn) pins σ H s → PySem.W.Looks (model X.prog X.w) s.heap (typeOf (.ref a)) cls → tst cls = some b →
    (∀ h', (∀ c o, s.heap.get? c = some o → h'.get? c = some o) → Q b { s with heap := h' }) →
    wpAny (model X.prog X.w) (X.A.mark (some (.ref a))) (eval te X.env) (fun c s₁ => wpAny (model X.prog X.w) (X.A.mark (some (.ref a))) (excMatches (.ref a) c) Q E s₁) E s
section
variable {X : Cx}
theorem names_at {x : Str} {c : Value} {p : Pos} (hc : Names X x c) {a : Addr} {pn pins : List (Addr × Obj)} {σ : St} {H : Hp} {s : Shared} {Q E : Value → Shared → Prop} (I : Inv (X.suite a pn) pins σ H s) (q : Q c s) :
    wpAny (model X.prog X.w) (X.A.mark (some (.ref a))) (eval (.Name x p) X.env) Q E s := by
  obtain ⟨hg, hdbg, hm | ⟨hm, hv, hnn⟩⟩ := hc
  · exact ld_glob (X := X.suite a pn) I hg hm q hdbg
  · exact ld_blt (X := X.suite a pn) I hg hm hv q hnn hdbg
theorem ht_name {x : Str} {c : Value} {p : Pos} (hc : Names X x c) : HTest X (.Name x p) (fun cls => PySem.W.exmOne X.K cls c) := by
  intro a pn pins σ H s cls b Q E I LT e q
  exact names_at hc I ((PySem.W.exm_one I.kIn LT e).here (q s.heap fun _ _ z => z))
theorem ht_tup3 {x1 x2 x3 : Str} {c1 c2 c3 : Value} {p1 p2 p3 p : Pos} {k : Nat} (h1 : Names X x1 c1) (h2 : Names X x2 c2) (h3 : Names X x3 c3)
    (hs : starEach [.Name x1 p1, .Name x2 p2, .Name x3 p3] X.env = [(false, eval (.Name x1 p1) X.env), (false, eval (.Name x2 p2) X.env), (false, eval (.Name x3 p3) X.env)] := by rfl) :
    HTest X (.Tuple [.Name x1 p1, .Name x2 p2, .Name x3 p3] k p) (fun cls => PySem.W.exmAny X.K cls [c1, c2, c3]) := by
  intro a pn pins σ H s cls b Q E I LT e q
  refine wpAny_Tuple_spliced ?_
  rw [hs]
  show wpAny _ _ (spliced [(false, eval (.Name x1 p1) X.env), (false, eval (.Name x2 p2) X.env), (false, eval (.Name x3 p3) X.env)]) _ _ _
  refine Calls.spliced_cons (names_at h1 I (Calls.spliced_cons (names_at h2 I (Calls.spliced_cons (names_at h3 I (Calls.spliced_nil ⟨by rw [sizeLine_eq]; simp, ?_⟩))))))
  have kp : ∀ c o, s.heap.get? c = some o → (s.heap.push { cls := .type "tuple", data := .seq [c1, c2, c3].toArray }).get? c = some o := fun c o z => Heap.get?_push_of_some _ z
  exact (PySem.W.exm_tup3 (I.kIn.keeps kp) (LT.keeps kp) (Heap.get?_push_size _ rfl) e).here (q _ kp)
end

/-! ### an exception that is caught is tracked from then on -/
section
variable {X : Cx} {pins : List (Addr × Obj)} {σ : St} {H : Hp} {s : Shared} {a C dx : Addr} {oe : Obj} {vs : Array Value}
theorem _root_.L2.Inv.track (I : Inv X pins σ H s) (ha : s.heap.get? a = some oe) (z : Zc (.ref C) (some dx) oe) (hd : oe.data = .fields vs) (na : H a = none) (n0 : X.s_0.heap.get? a = none) (nL : a ≠ X.env.locals) (np : ∀ p ∈ X.pn ++ pins, p.1 ≠ a) :
    Inv (X.suite a (X.pn ++ pins)) [] σ (upd H a (exV a C dx)) s := by
  have ne : ∀ b u, H b = some u → b ≠ a := fun b u e => ne_of_none e na
  have n0' : ∀ b o, X.s_0.heap.get? b = some o → b ≠ a := fun b o e q => by
    rw [q, n0] at e
    cases e
  refine ⟨I.ok.suite _ _, I.os, I.bare, ⟨I.base.keep, I.base.slot, fun b o e n hx => ?_, I.base.there, fun b xs e => ?_, fun b o u e => ?_, fun b ps e => ?_⟩, I.loc, I.cell, ?_, fun y c e => ?_, fun p hp => ?_, fun b u e => ?_, I.len⟩
  · rw [upd_ne (n0' b o e)]
    exact I.base.free b o e n hx
  · have q := I.base.tups b xs e
    rw [upd_ne (ne b _ q)]
    exact q
  · have q := I.base.frzs b o u e
    rw [upd_ne (ne b _ q)]
    exact q
  · obtain ⟨m, q⟩ := I.base.tbls b ps e
    exact ⟨m, by rw [upd_ne (ne b _ q)]; exact q⟩
  · rw [upd_ne (Ne.symm nL)]
    exact I.free
  · have hca : c ≠ a := fun q => by
      obtain ⟨v, o, ho, hdc⟩ := I.cell y c e
      rw [q, ha] at ho
      cases ho
      rw [hd] at hdc
      cases hdc
    rw [upd_ne hca]
    exact I.freeC y c e
  · have hp' : p ∈ X.pn ++ pins := by
      rw [List.append_nil] at hp
      exact hp
    obtain ⟨e, n, n1, n2, d⟩ := I.pin p hp'
    exact ⟨e, by rw [upd_ne (np p hp')]; exact n, n1, n2, d⟩
  · by_cases hb : b = a
    · subst hb
      rw [upd_same] at e
      cases e
      exact ⟨⟨oe, vs, ha, z, hd⟩, ⟨oe, ha⟩, fun h1 h2 ⟨o, w, q⟩ k => ⟨o, w, k _ q.1, q.2⟩⟩
    · rw [upd_ne hb] at e
      exact (I.hok b u e).stay (fun c v _ q => q) (fun c q => by rw [upd_ne (ne c _ q)]; exact q) fun c xs q => by rw [upd_ne (ne c _ q)]; exact q
theorem _root_.L2.Inv.unsuite' {pn' : List (Addr × Obj)} (I : Inv (X.suite a (X.pn ++ pins)) pn' σ H s) (ok : X.Ok) : Inv X pins σ H s :=
  ⟨ok, I.os, I.bare, I.base, I.loc, I.cell, I.free, I.freeC, fun p hp => I.pin p (List.mem_append_left _ hp), I.hok, I.len⟩
end

/-! ### the clauses -/
structure HD where
  p : Str → Bool
  i : Option Nat
  g : SF
def Fl.unset (i : Nat) : Fl → Fl
  | .nx ρ => .nx (ρ.set i none)
  | .rt m ρ => .rt m (ρ.set i none)
  | .bk ρ => .bk (ρ.set i none)
  | .ct ρ => .ct (ρ.set i none)
  | _ => .stuck
def Fl.calm : Fl → Fl
  | .exc _ _ _ => .stuck
  | r => r
def hRun : List HD → Str → D → Env → Fl
  | [], c, d, ρ => .exc c d ρ
  | h :: hs, c, d, ρ => if h.p c then (match h.i with
      | none => (h.g ρ).calm
      | some i => (h.g (ρ.set i (some (.v (excD c d))))).unset i) else hRun hs c d ρ
def sTry (g : SF) (hs : List HD) : SF := fun ρ => match g ρ with
  | .exc c d ρ' => hRun hs c d ρ'
  | r => r
theorem hRun_f {h : HD} {hs : List HD} {c : Str} {d : PyData} {ρ : Env} (e : h.p c = false) : hRun (h :: hs) c d ρ = hRun hs c d ρ := if_neg (by rw [e]; simp)
theorem hRun_t {h : HD} {hs : List HD} {c : Str} {d : PyData} {ρ : Env} (e : h.p c = true) : hRun (h :: hs) c d ρ = (match h.i with
      | none => (h.g ρ).calm
      | some i => (h.g (ρ.set i (some (.v (excD c d))))).unset i) := if_pos e
inductive HdOk (X : Cx) (C : Base) : List ExceptHandler → List HD → Prop
  | nil : HdOk X C [] []
  | as {te : Expr} {tst : Value → Option Bool} {n : Str} {i : Nat} {b₀ : Stmt} {suite : List Stmt} {pos' : Pos} {p : Str → Bool} {g : SF} {hds : List ExceptHandler} {l : List HD} (ht : HTest X te tst) (hp : ∀ c cl f, C.cls.f c = some (cl, f) → tst (.ref cl) = some (p c))
      (hi : X.N[i]? = some n) (hln : X.env.kindOf n = some .local) (hL : C.L.elem i = false) (hn : Nat.blt i C.n = true) (hb : ∀ (a : Addr) (pn : List (Addr × Obj)), JSs (X.suite a pn) C W0 (b₀ :: suite) g) (r : HdOk X C hds l) :
      HdOk X C (.ExceptHandler (some te) (some n) (b₀ :: suite) pos' :: hds) (⟨p, some i, g⟩ :: l)
  | only {te : Expr} {tst : Value → Option Bool} {b₀ : Stmt} {suite : List Stmt} {pos' : Pos} {p : Str → Bool} {g : SF} {hds : List ExceptHandler} {l : List HD} (ht : HTest X te tst) (hp : ∀ c cl f, C.cls.f c = some (cl, f) → tst (.ref cl) = some (p c))
      (hb : ∀ (a : Addr) (pn : List (Addr × Obj)), JSs (X.suite a pn) C W0 (b₀ :: suite) g) (r : HdOk X C hds l) :
      HdOk X C (.ExceptHandler (some te) none (b₀ :: suite) pos' :: hds) (⟨p, none, g⟩ :: l)

section
variable {C : Base} {Z H : Hp} {o : Addr → Option Nat} {σ : St} {ρ : Env} {T : List (V × M)} {i : Nat}
theorem Own.unset2 (w : Own C Z H o σ ρ T) (i : Nat) (hL : i ∉ C.L) : Own C Z H o (σ.set i none) (ρ.set i none) T :=
  ⟨w.zh, w.gh, w.z0, w.zg, w.oz, w.og, by rw [List.length_set]; exact w.ln, fun j hj => by
    rw [List.getElem?_set_ne (fun z : i = j => hL (by rw [z]; exact hj))]
    exact w.lk j hj, fun j m e => by
    rcases set_get e with ⟨_, z⟩ | ⟨ne, e'⟩
    · cases z
    · obtain ⟨v, h1, h2⟩ := w.sl j m e'
      exact ⟨v, by rw [List.getElem?_set_ne (Ne.symm ne)]; exact h1, h2⟩, w.tp, w.gt, w.tb, w.oh, w.zf, w.zt⟩
end
section
variable {X : Cx} {C : Base} {body : List Stmt} {hds : List ExceptHandler} {l : List HD} {pos : Pos} {g : SF} {Wout : WX}
/-- what is wished of an exception of the body -/
def wTry (C : Base) (Wout : WX) (l : List HD) (D : Ends) : WX := fun cls d σ H => ∃ (Zb Z : Hp) (o : Addr → Option Nat) (ρ : Env) (c : Str) (dd : PyData) (cl dx : Addr), cls = .ref cl ∧ d = some dx ∧ Own (C.at Zb) Z H o σ ρ [] ∧ Exc C.cls Z H c dd cl dx ∧ kS (C.at Zb) Wout (hRun l c dd ρ) D
theorem js_try (hs : X.stack = X.env :: X.outer) (hf : X.env.frame = some X.env.locals) (hex : X.ex = []) (hN : X.N.Nodup) (tk : Takes X Wout)
    (hb : ∀ (W : WX) (pn : List (Addr × Obj)) (xe : Value → Shared → Prop), Takes (X.tr pn xe) W → PassesOwn (model X.prog X.w) X.A X.env xe → JSs (X.tr pn xe) C W body g)
    (hh : HdOk X C hds l) (h0 : hds ≠ []) : JS X C Wout (.Try body hds [] [] pos) (sTry g l) := by
  obtain ⟨h₀, hds, rfl⟩ : ∃ h₀ r, hds = h₀ :: r := by
    cases hds with
    | nil => exact absurd rfl h0
    | cons a b => exact ⟨a, b, rfl⟩
  refine ⟨fun pins s σ H D I h => ?_⟩
  have ok := I.ok
  have hfr : X.A.frames = some (X.env :: X.outer) := by rw [ok.frames, hs]
  have h2 : tS C (wTry C Wout l D) g D σ H := by
    obtain ⟨Zb, Z, o, ρ, w, k⟩ := h
    refine ⟨Zb, Z, o, ρ, w, ?_⟩
    unfold sTry at k
    cases hg : g ρ with
    | exc c d ρ1 =>
      rw [hg] at k
      intro Z1 H1 o1 σ1 cl dx w1 x1
      exact ⟨Zb, Z1, o1, ρ1, c, d, cl, dx, rfl, rfl, w1, x1, k⟩
    | nx ρ1 => rw [hg] at k; exact k
    | rt m ρ1 => rw [hg] at k; exact k
    | bk ρ1 => rw [hg] at k; exact k
    | ct ρ1 => rw [hg] at k; exact k
    | stuck => rw [hg] at k; exact k
  refine wpAny_Try_except ?_
  refine wpAny_mono ((hb (wTry C Wout l D) (X.pn ++ pins) (fun e s₁ => wpAny (model X.prog X.w) X.A (noteFrame e X.env) (fun _ s₂ => wpAny (model X.prog X.w) X.A (setFlight e none) (fun _ s₃ =>
    wpAny (model X.prog X.w) X.A (handleBy e X.env (h₀ :: hds)) (SP X pins D) X.xe s₃) X.xe s₂) X.xe s₁) (fun u s' xx => ?_) PassesOwn.looking).run [] s σ H D (I.toTry _) h2) (fun f s1 hsp => ?_) (fun e s1 he => he)
  · -- caught
    obtain ⟨a, B, sI, pins', σ', H', cls, d, rfl, J', nb, up, sky, na, os, ag, Zb, Z, o, ρ, c, dd, cl, dx, rfl, rfl, w, x, k⟩ := xx
    have J : Inv X pins σ' H' sI := J'.ofTry ok
    have sky' : Sky B (X.env :: X.outer) a (Zc (.ref cl) (some dx)) X.env.locals s'.heap := by rw [← hs]; exact sky
    refine Sky.land Zc.steady hfr hf sky' fun h3 fl3 up3 => ?_
    have nfr : a ∉ frs (X.env :: X.outer) := fun hm => by
      obtain ⟨oe, vs, e, _, dd⟩ := fl3.there
      obtain ⟨_, o', e', hnf⟩ := fl3.2.2.1.mem hm
      rw [e] at e'
      cases e'
      exact hnf _ dd
    have nL : a ≠ X.env.locals := fun z => nfr (List.mem_filterMap.mpr ⟨X.env, List.mem_cons_self, by rw [hf, z]⟩)
    have nF : a ∉ X.fs := fun hm => by
      obtain ⟨e, he, q⟩ := List.mem_filterMap.mp hm
      exact nfr (List.mem_filterMap.mpr ⟨e, List.mem_cons_of_mem _ he, q⟩)
    have nI : sI.heap.get? a = none := by
      cases e : sI.heap.get? a with
      | none => rfl
      | some q =>
        have := nb a q e (by rw [hs]; exact nfr)
        rw [fl3.2.1] at this
        cases this
    have n0 : X.s_0.heap.get? a = none := by
      cases e : X.s_0.heap.get? a with
      | none => rfl
      | some q =>
        obtain ⟨q', z⟩ := J.base.there a q e (by rw [hex]; simp)
        rw [nI] at z
        cases z
    have np : ∀ p ∈ X.pn ++ pins, p.1 ≠ a := fun p hp z => by
      have := (J.pin p hp).1
      rw [z, nI] at this
      cases this
    -- the clauses one by one, the heap growing
    have go : ∀ {hds' : List ExceptHandler} {l' : List HD}, HdOk X C hds' l' → kS (C.at Zb) Wout (hRun l' c dd ρ) D → ∀ h3, HandSPX.FlyingZ B (X.env :: X.outer) a (Zc (.ref cl) (some dx)) h3 → s'.heap.UpToSlots h3 →
        wpAny (model X.prog X.w) X.A (handleBy (.ref a) X.env hds') (SP X pins D) X.xe { s' with heap := h3 } := by
      intro hds' l' hk
      induction hk with
      | nil =>
        intro k h3 fl3 up3
        refine wpAny_handleBy_nil ?_
        obtain ⟨k1, k2, k3, oe, vs, T, oT, ts', he, hz, hd, h1, hr⟩ := id fl3
        unfold PySem.passOn
        refine wpAny_bind (wpAny_field he hd h1 ?_)
        rw [if_neg (show ¬ ((Value.ref T == Value.none) = true) from by simp)]
        have fin : wpAny (model X.prog X.w) X.A (setFlight (.ref a) X.env.frame) (fun _ s4 => wpAny (model X.prog X.w) X.A (throw (.ref a) : Sem Flow) (SP X pins D) X.xe s4) X.xe { s' with heap := h3 } := by
          rw [hf]
          refine HandSPX.setFlight_upZ fl3 fun h4 hh4 up4 => wpAny_throw (tk _ _ ?_)
          exact ⟨a, B, sI, pins, σ', H', .ref cl, some dx, rfl, J, nb, (up.trans up3).trans up4, .inr (.inr (by rw [hs]; exact hh4)), na, os, ag, k Z H' o σ' cl dx w x⟩
        first
          | exact wpAny_bind (wpAny_pure (wpAny_bind fin))
          | exact wpAny_bind fin
      | @as te tst n i b₀ suite pos' p g hds2 l2 ht hp hi hln hL hn hbd r ih =>
        intro k h3 fl3 up3
        have J3 : Inv X pins σ' H' { s' with heap := h3 } := J.landed nb fl3.1 (up.trans up3) os ag
        obtain ⟨oe3, vs3, he3, hz3, hd3⟩ := fl3.there
        have S3 := J3.suite he3 hd3 na nL nF
        obtain ⟨f, y, hcl, x1, x2, x3⟩ := id x
        refine wpAny_handleBy_cons (codeAny_handlers_test ?_) (by intro q; cases q)
        have LT : PySem.W.Looks (model X.prog X.w) h3 (typeOf (.ref a)) (.ref cl) := fun A Q E s k q => wpAny_typeOf_ref (k _ _ he3) (by rw [hz3.1]; exact q)
        refine ht S3 LT (hp c cl f hcl) fun h5 kp => ?_
        have up5 : h3.UpToSlots h5 := Heap.UpToSlots.of_keeps kp
        have fl5 : HandSPX.FlyingZ B (X.env :: X.outer) a (Zc (.ref cl) (some dx)) h5 := by
          obtain ⟨k1, k2, k3, oe, vs, T, oT, ts', e1, e2, e3, e4, e5, e6, e7, e8, e9⟩ := fl3
          exact ⟨fun b o z => kp b o (k1 b o z), k2, Heap.FunFrames.of_keeps (fun b o e _ => ⟨o, kp b o e, rfl⟩) k3, oe, vs, T, oT, ts', kp _ _ e1, e2, e3, e4, e5, e6, kp _ _ e7, e8, e9⟩
        cases hpc : p c with
        | false =>
          rw [hRun_f hpc] at k
          rw [if_neg (by simp)]
          exact ih k h5 fl5 (up3.trans up5)
        | true =>
          rw [hRun_t hpc] at k
          dsimp only at k
          rw [if_pos rfl]
          refine codeAny_handlers_suite_as ?_
          refine HandSPX.lands_againZ fl5 fun h4 fl4 up4 => ?_
          have J4 : Inv X pins σ' H' { s' with heap := h4 } := J.landed nb fl4.1 (((up.trans up3).trans up5).trans up4) os ag
          obtain ⟨oe4, vs4, he4, hz4, hd4⟩ := fl4.there
          have S4 := J4.track he4 hz4 hd4 na n0 nL np
          refine store_ok (X := X.suite a (X.pn ++ pins)) (v := .ref a) S4 hN hi (.inl hln) rfl (fun s5 S5 => ?_) (.inr hln)
          have hLm : i ∉ C.L := fun z => by
            rw [List.elem_eq_true_of_mem z] at hL
            cases hL
          have hin : i < C.n := Nat.le_of_ble_eq_true hn
          obtain ⟨o2, w2⟩ := w.exd (u := exV a cl dx) na
          obtain ⟨o3, w3⟩ := w2.push (v := .ref a) (m := .v (excD c dd)) Sub.rfl' Sub.rfl' w2.zh (fun a u e => .inl e) (RD.exc hcl upd_same (by rw [upd_ne (fun z => by rw [z, na] at x1; cases x1)]; exact x2) ((Sub.new (w.zh.none na)).dp _ _ x3))
          obtain ⟨o4, w4⟩ := w3.store hin hLm
          have end_ : ∀ {σ6 : St} {H6 : Hp} {s6 : Shared} {Q : Shared → Prop}, Inv (X.suite a (X.pn ++ pins)) [] σ6 H6 s6 → (∀ s7, Inv X pins (σ6.set i none) H6 s7 → Q s7) →
              wpAny (model X.prog X.w) X.A (do bindName X.env n .none; unbindBehindTheSuite X.env n pos') (fun _ s7 => Q s7) X.xe s6 := fun {σ6 H6 s6 Q} S6 hq => gone_ok (S6.unsuite' ok) hN hi hln hq
          have D2 : ∃ D2 : Ends, tS C W0 g D2 (σ'.set i (some (.ref a))) (upd H' a (exV a cl dx)) ∧ (∀ σ H, D2.nx σ H → D.nx (σ.set i none) H) ∧ (∀ σ H, D2.bk σ H → D.bk (σ.set i none) H) ∧ (∀ σ H, D2.ct σ H → D.ct (σ.set i none) H) ∧ D2.rt = D.rt := by
            refine ⟨⟨fun σ H => D.nx (σ.set i none) H, D.rt, fun σ H => D.bk (σ.set i none) H, fun σ H => D.ct (σ.set i none) H⟩, ⟨Zb, _, o4, _, w4, ?_⟩, fun _ _ z => z, fun _ _ z => z, fun _ _ z => z, rfl⟩
            cases hg : g (ρ.set i (some (.v (excD c dd)))) with
            | nx ρ1 =>
              rw [hg] at k
              exact fun Z H o σ w => k Z H o _ (w.unset2 i hLm)
            | rt m ρ1 =>
              rw [hg] at k
              exact fun Z H o σ v w => k Z H o _ v (w.unset2 i hLm)
            | bk ρ1 =>
              rw [hg] at k
              exact fun Z H o σ w => k Z H o _ (w.unset2 i hLm)
            | ct ρ1 =>
              rw [hg] at k
              exact fun Z H o σ w => k Z H o _ (w.unset2 i hLm)
            | exc c' d' ρ1 =>
              rw [hg] at k
              exact k.elim
            | stuck =>
              rw [hg] at k
              exact k.elim
          obtain ⟨D2, ht2, e1, e2, e3, e4⟩ := D2
          refine wpAny_mono ((hbd a (X.pn ++ pins)).run [] s5 _ _ D2 S5 ht2) (fun f s6 hsp => ?_) (fun _ _ z => False.elim z)
          cases f with
          | next =>
            obtain ⟨σ6, H6, S6, q6⟩ := hsp
            exact end_ S6 fun s7 J7 => ⟨_, _, J7, e1 _ _ q6⟩
          | brk =>
            obtain ⟨σ6, H6, S6, q6⟩ := hsp
            exact end_ S6 fun s7 J7 => ⟨_, _, J7, e2 _ _ q6⟩
          | cont =>
            obtain ⟨σ6, H6, S6, q6⟩ := hsp
            exact end_ S6 fun s7 J7 => ⟨_, _, J7, e3 _ _ q6⟩
          | ret u =>
            obtain ⟨v6, σ6, H6, S6, r6, q6⟩ := hsp
            rw [e4] at q6
            exact end_ S6 fun s7 J7 => ⟨_, _, _, J7, r6, q6⟩
      | @only te tst b₀ suite pos' p g hds2 l2 ht hp hbd r ih =>
        intro k h3 fl3 up3
        have J3 : Inv X pins σ' H' { s' with heap := h3 } := J.landed nb fl3.1 (up.trans up3) os ag
        obtain ⟨oe3, vs3, he3, hz3, hd3⟩ := fl3.there
        have S3 := J3.suite he3 hd3 na nL nF
        obtain ⟨f, y, hcl, x1, x2, x3⟩ := id x
        refine wpAny_handleBy_cons (codeAny_handlers_test ?_) (by intro q; cases q)
        have LT : PySem.W.Looks (model X.prog X.w) h3 (typeOf (.ref a)) (.ref cl) := fun A Q E s k q => wpAny_typeOf_ref (k _ _ he3) (by rw [hz3.1]; exact q)
        refine ht S3 LT (hp c cl f hcl) fun h5 kp => ?_
        have up5 : h3.UpToSlots h5 := Heap.UpToSlots.of_keeps kp
        have fl5 : HandSPX.FlyingZ B (X.env :: X.outer) a (Zc (.ref cl) (some dx)) h5 := by
          obtain ⟨k1, k2, k3, oe, vs, T, oT, ts', e1, e2, e3, e4, e5, e6, e7, e8, e9⟩ := fl3
          exact ⟨fun b o z => kp b o (k1 b o z), k2, Heap.FunFrames.of_keeps (fun b o e _ => ⟨o, kp b o e, rfl⟩) k3, oe, vs, T, oT, ts', kp _ _ e1, e2, e3, e4, e5, e6, kp _ _ e7, e8, e9⟩
        cases hpc : p c with
        | false =>
          rw [hRun_f hpc] at k
          rw [if_neg (by simp)]
          exact ih k h5 fl5 (up3.trans up5)
        | true =>
          rw [hRun_t hpc] at k
          dsimp only at k
          rw [if_pos rfl]
          refine codeAny_handlers_suite ?_
          refine HandSPX.lands_againZ fl5 fun h4 fl4 up4 => ?_
          have J4 : Inv X pins σ' H' { s' with heap := h4 } := J.landed nb fl4.1 (((up.trans up3).trans up5).trans up4) os ag
          obtain ⟨oe4, vs4, he4, hz4, hd4⟩ := fl4.there
          have S4 := J4.suite he4 hd4 na nL nF
          have ht2 : tS C W0 g D σ' H' := by
            refine ⟨Zb, Z, o, ρ, w, ?_⟩
            cases hg : g ρ with
            | nx ρ1 => rw [hg] at k; exact k
            | rt m ρ1 => rw [hg] at k; exact k
            | bk ρ1 => rw [hg] at k; exact k
            | ct ρ1 => rw [hg] at k; exact k
            | exc c' d' ρ1 => rw [hg] at k; exact k.elim
            | stuck => rw [hg] at k; exact k.elim
          refine wpAny_mono ((hbd a _).run [] _ _ H' D S4 ht2) (fun f s6 hsp => ?_) (fun _ _ z => False.elim z)
          cases f with
          | next =>
            obtain ⟨σ6, H6, S6, q6⟩ := hsp
            exact ⟨_, _, S6.unsuite ok, q6⟩
          | brk =>
            obtain ⟨σ6, H6, S6, q6⟩ := hsp
            exact ⟨_, _, S6.unsuite ok, q6⟩
          | cont =>
            obtain ⟨σ6, H6, S6, q6⟩ := hsp
            exact ⟨_, _, S6.unsuite ok, q6⟩
          | ret u =>
            obtain ⟨v6, σ6, H6, S6, r6, q6⟩ := hsp
            exact ⟨_, _, _, S6.unsuite ok, r6, q6⟩
    exact go hh k h3 fl3 up3
  · cases f with
    | next =>
      obtain ⟨σ', H', J', q⟩ := hsp
      exact wpAny_execs_nil ⟨σ', H', J'.ofTry ok, q⟩
    | brk =>
      obtain ⟨σ', H', J', q⟩ := hsp
      exact ⟨σ', H', J'.ofTry ok, q⟩
    | cont =>
      obtain ⟨σ', H', J', q⟩ := hsp
      exact ⟨σ', H', J'.ofTry ok, q⟩
    | ret u =>
      obtain ⟨v, σ', H', J', r, q⟩ := hsp
      exact ⟨v, σ', H', J'.ofTry ok, r, q⟩
end
end FW
end

section
set_option Elab.async false
set_option linter.all false
set_option maxRecDepth 100000
set_option autoImplicit false
/-! FW13: fields of exceptions, isinstance. -/
namespace FW
open PySem PySem.Spec PyProof.Rows L2

/-- what the class of an exception must have for its field f to be read, and for isinstance -/
structure XR (K : PySem.W.Frag) (C : Addr) (f : Str) : Prop where
  hg : PySem.W.findIn K (.ref C) "__getattribute__" = some (some (.builtin "BaseException.__getattribute__"))
  hk : PySem.W.findIn K (.ref C) "__getattr__" = some none
  hs : PySem.W.subIn K (.ref C) (.type "BaseException") = some true
  hd : PySem.W.hasDictIn K C = true
  ha : PySem.W.findIn K (.ref C) "__class__" = some (some (.builtin "object.__class__"))
  hn : PySem.W.specialIn K (.builtin "object.__class__") "__get__" = some (some (.builtin "getset_descriptor.__get__"))
  ht : PySem.W.takesIn K (.builtin "object.__class__") = some true
  hm : PySem.W.mroIn K C (.type "object") = some true
  no : PySem.W.findIn K (.ref C) f = some none
def tXA (K : PySem.W.Frag) (f : Str) (te : TE) : TE := fun σ H Q => te σ H fun x H1 => ∃ (a C dx : Addr) (v : V), x = .ref a ∧ H1 a = some (exV a C dx) ∧ H1 dx = some (.xd [(f, v)]) ∧ XR K C f ∧ Q v H1
section
variable {X : Cx} {e : Expr} {te : TE} {f : Str} {pos : Pos}
theorem exV_at {P : Program} {w : World} {H : Hp} {h : Heap} {a C dx : Addr} (ok : HOk P w H h) (e : H a = some (exV a C dx)) : ∃ (oe : Obj) (vs : Array Value), h.get? a = some oe ∧ Zc (.ref C) (some dx) oe ∧ oe.data = .fields vs := (ok a _ e).1
theorem exV_inst {H : Hp} {pins : List (Addr × Obj)} {σ : St} {s : Shared} {a C dx : Addr} {f : Str} {v : V} (I : Inv X pins σ H s) (ea : H a = some (exV a C dx)) (ed : H dx = some (.xd [(f, v)])) :
    ∃ (oe od : Obj) (u : Value), PySem.W.InstAt s.heap a oe C (some od) ∧ RelV v u ∧ PySem.W.lookIn f od = some (some u) := by
  obtain ⟨oe, vs, ha, hz, hd⟩ := exV_at I.hok ea
  obtain ⟨mA, hns, hr⟩ := (show ObjOk X.prog X.w H s.heap dx (.xd [(f, v)]) from I.hok dx _ ed)
  obtain ⟨od, ho, hl⟩ := lookIn_ns hns
  obtain ⟨u, hu, ru⟩ := RelO.some_of (v := v) (o := mA f) (by have := hr f; simpa [List.lookup] using this)
  exact ⟨oe, od, u, ⟨ha, hz.1, by unfold PySem.W.notCls; rw [hd] <;> rfl, by rw [hz.2]; exact ho⟩, ru, by rw [hl, hu]⟩
theorem pe_xa (he : PE X e te) (hb : attributeBase e f X.env (eval e X.env) = eval e X.env := by rfl) : PE X (.Attribute e f pos) (tXA X.K f te) := by
  refine ⟨fun pins s σ H Q I h => attr_of hb (thn (he.run pins s σ H _ I h) fun u s1 hh => ?_)⟩
  obtain ⟨x, H1, I1, rx, a, C, dx, v, rfl, ea, ed, T, q⟩ := hh
  obtain rfl : u = Value.ref a := rx
  obtain ⟨oe, od, u, J, ru, hl⟩ := exV_inst I1 ea ed
  exact HandSPX.exc_get I1.kIn J T.hg T.hk T.hs (PySem.W.findObj_own T.hd T.no rfl hl) (handed_of ru) ⟨v, H1, I1.tok _, ru, q⟩
/-- isinstance(exception, class) -/
def rXI (K : PySem.W.Frag) (cv : Value) : List V → Hp → VK → Prop := fun xs H Q => ∃ (c : V) (a C dx : Addr) (f : Str) (v : V) (b : Bool), xs = [.ref a, c] ∧ (∀ u, RelV c u → u = cv) ∧ H a = some (exV a C dx) ∧ H dx = some (.xd [(f, v)]) ∧ XR K C f ∧ PySem.W.kitOne K (.ref C) cv = some b ∧ Q (.bl b) H
theorem cr_xi {cv : Value} : CallR X (.builtin "isinstance") (rXI X.K cv) := by
  intro pins s σ H xs us Q I r h
  obtain ⟨c, a, C, dx, f, v, b, rfl, hcv, ea, ed, T, e, q⟩ := h
  obtain ⟨u1, u2, rfl, r1, r2⟩ := vals2 r
  obtain rfl : u1 = Value.ref a := r1
  have ec := hcv _ r2
  subst ec
  obtain ⟨oe, od, u, J, ru, hl⟩ := exV_inst I ea ed
  obtain ⟨cd, hc, _⟩ := PySem.W.any_some T.hd
  exact PySem.W.kia_one (PySem.W.kitx_exc (by rw [hc]; rfl) T.hg T.hk T.hs T.ha T.hn T.ht T.hm) I.kIn J e (fun z => nomatch z) fun tk => ⟨.bl b, H, I.tok tk, rfl, q⟩
end

def mAttr (fs : Str → Option Str) (f : Str) (m : M) : Option M := match m with
  | .v (.dict [(.str c, d)]) => if fs c = some f then some (.v d) else none
  | _ => none
def mIsX (p : Str → Bool) (m : M) : Option M := match m with
  | .v (.dict [(.str c, _)]) => some (.v (.bool (p c)))
  | _ => none
inductive Kd where
  | non | bl | int | str | lst | tup
def Kd.ty : Kd → String
  | .non => "NoneType"
  | .bl => "bool"
  | .int => "int"
  | .str => "str"
  | .lst => "list"
  | .tup => "tuple"
def M.kd : M → Option Kd
  | .v .none => some .non
  | .v (.bool _) => some .bl
  | .v (.int _) => some .int
  | .v (.str _) => some .str
  | .v (.list _) => some .lst
  | .v (.tuple _) => some .tup
  | .ml _ => some .lst
  | .mll _ => some .lst
  | _ => none
/-- isinstance of data: the class by its number -/
def isK (T : Kd) : Kd → Bool
  | .non => match T with | .non => true | _ => false
  | .bl => match T with | .bl => true | .int => true | _ => false
  | .int => match T with | .int => true | _ => false
  | .str => match T with | .str => true | _ => false
  | .lst => match T with | .lst => true | _ => false
  | .tup => match T with | .tup => true | _ => false
def mIst (T : Kd) (m : M) : Option M := m.kd.map fun k => .v (.bool (isK T k))
section
variable {X : Cx} {C : Base} {W : WX} {e : Expr} {g : JF} {p p1 pos : Pos}
theorem je_attr {fs : Str → Option Str} {f : Str} (hc : ∀ c cl f', C.cls.f c = some (cl, f') → fs c = some f' ∧ XR X.K cl f') (he : JE X C W e g) (hb : attributeBase e f X.env (eval e X.env) = eval e X.env := by rfl) : JE X C W (.Attribute e f pos) (jUn (mAttr fs f) g) := by
  refine PE.imp (pe_xa he hb) fun σ H Q k => ?_
  refine tJ_un (r := fun x H1 Q => ∃ (a Cl dx : Addr) (v : V), x = .ref a ∧ H1 a = some (exV a Cl dx) ∧ H1 dx = some (.xd [(f, v)]) ∧ XR X.K Cl f ∧ Q v H1) (fun Z H x a m P Q hs r1 h q => ?_) k
  unfold mAttr at h
  split at h
  · rename_i c d
    split at h
    · rename_i hf
      cases h
      have r1 : RD C.cls Z x (.dict [(.str c, d)]) := r1
      cases r1 with
      | @exc a0 cl dx c0 f0 y d0 h1 h2 h3 h4 =>
        obtain ⟨e1, e2⟩ := hc _ _ _ h1
        rw [hf] at e1
        cases e1
        exact ⟨_, _, _, y, rfl, hs _ _ h2, hs _ _ h3, e2, give_v hs h4 q⟩
    · cases h
  · cases h
/-- isinstance(e, an exception class) -/
theorem je_isx {x : Str} {cv : Value} {c : V} {pr : Str → Bool} (hx : PE X (.Name x p1) (tC c)) (hcv : ∀ u, RelV c u → u = cv) (hc : ∀ c cl f', C.cls.f c = some (cl, f') → XR X.K cl f' ∧ PySem.W.kitOne X.K (.ref cl) cv = some (pr c)) (ha : JE X C W e g) (hg : Gl X "isinstance") (hm : X.mg "isinstance" = none)
    (he : starEach [e, .Name x p1] X.env = (false, eval e X.env) :: starEach [.Name x p1] X.env := by rfl) (hpl : (backTo pos (starEach [.Name x p1] X.env)).any (·.1) = false := by rfl) :
    JE X C W (.Call (.Name "isinstance" p) [e, .Name x p1] [] pos) (jUn (mIsX pr) g) := by
  refine PE.imp (pe_callB (cr_xi (cv := cv)) hg hm (by decide +kernel) (pa_cons ha (pa_cons hx pa_nil) he) (by decide) (by decide) he hpl) fun σ H Q k => ?_
  have := tJ_un (C := C) (W := W) (f := g) (F := mIsX pr) (r := fun x H Q => ∃ (a Cl dx : Addr) (f : Str) (v : V) (b : Bool), x = .ref a ∧ H a = some (exV a Cl dx) ∧ H dx = some (.xd [(f, v)]) ∧ XR X.K Cl f ∧ PySem.W.kitOne X.K (.ref Cl) cv = some b ∧ Q (.bl b) H) (fun Z H x a m P Q hs r1 h q => by
    unfold mIsX at h
    split at h
    · rename_i c' d
      cases h
      have r1 : RD C.cls Z x (.dict [(.str c', d)]) := r1
      cases r1 with
      | @exc a0 cl dx c0 f0 y d0 h1 h2 h3 h4 =>
        obtain ⟨e1, e2⟩ := hc _ _ _ h1
        exact ⟨_, _, _, _, y, _, rfl, hs _ _ h2, hs _ _ h3, e1, e2, give_bool hs q⟩
    · cases h) k
  obtain ⟨Zb, Z, o, ρ, T', w, k⟩ := this
  refine ⟨Zb, Z, o, ρ, T', w, ?_⟩
  cases hf : g ρ with
  | stuck => rw [hf] at k; exact k
  | exc c d ρ1 => rw [hf] at k; exact k
  | ok s ρ1 =>
    rw [hf] at k
    intro Z1 H1 o1 v T1 w1 a1
    obtain ⟨a, Cl, dx, f, y, b, rfl, h⟩ := k Z1 H1 o1 v T1 w1 a1
    exact ⟨c, a, Cl, dx, f, y, b, rfl, hcv, h⟩
theorem kd_ty {cls : Cls} {K : PySem.W.Frag} {Z H : Hp} {P : Addr → Prop} {v : V} {m : M} {k : Kd} (hs : Sub Z H) (r : RM cls Z H P v m) (e : m.kd = some k) : TyOf K H v (.type k.ty) := by
  unfold M.kd at e
  split at e <;> cases e
  · cases (show RD cls Z v _ from r)
    exact .non
  · cases (show RD cls Z v _ from r)
    exact .bl _
  · cases (show RD cls Z v _ from r)
    exact .int _
  · cases (show RD cls Z v _ from r)
    exact .str _
  · cases (show RD cls Z v _ from r) with
    | lst h1 h2 => exact .lst (hs _ _ h1)
  · cases (show RD cls Z v _ from r) with
    | tup h1 h2 => exact .tup (hs _ _ h1)
  · obtain ⟨a, ys, rfl, _, h, _⟩ := r
    exact .lst h
  · obtain ⟨a, ys, rfl, _, h, _⟩ := r
    exact .lst h
theorem isK_kit {K : PySem.W.Frag} (T k : Kd) : PySem.W.kitOne K (.type k.ty) (.type T.ty) = some (isK T k) := by
  cases T <;> cases k <;> exact kit_ty (by decide +kernel)
theorem je_ist {x : Str} (T : Kd) (ha : JE X C W e g) (hg : Gl X "isinstance") (hm : X.mg "isinstance" = none) (hgT : Gl X x) (hmT : X.mg x = none) (hvT : bootBuiltins x = some (.type T.ty)) (hnT : x ≠ "__name__" := by decide) (hdT : (x == ("__debug__" : Str)) = false := by decide)
    (he : starEach [e, .Name x p1] X.env = (false, eval e X.env) :: starEach [.Name x p1] X.env := by rfl) (hpl : (backTo pos (starEach [.Name x p1] X.env)).any (·.1) = false := by rfl) :
    JE X C W (.Call (.Name "isinstance" p) [e, .Name x p1] [] pos) (jUn (mIst T) g) := by
  refine PE.imp (pe_callB (call_isi) hg hm (by decide +kernel) (pa_cons ha (pa_cons (pe_bltn (v := .ty T.ty) hgT hmT hvT rfl hnT hdT) pa_nil) he) (by decide) (by decide) he hpl) fun σ H Q k => ?_
  have := tJ_un (C := C) (W := W) (f := g) (F := mIst T) (r := fun x H Q => ∃ (t : Value) (b : Bool), TyX X.K H x t ∧ PySem.W.kitOne X.K t (.type T.ty) = some b ∧ Q (.bl b) H) (fun Z H x a m P Q hs r1 h q => by
    unfold mIst at h
    cases hk : a.kd with
    | none => rw [hk] at h; cases h
    | some k =>
      rw [hk] at h
      cases h
      exact ⟨_, _, .base (kd_ty hs r1 hk), isK_kit T k, give_bool hs q⟩) k
  obtain ⟨Zb, Z, o, ρ, T', w, k⟩ := this
  refine ⟨Zb, Z, o, ρ, T', w, ?_⟩
  cases hf : g ρ with
  | stuck => rw [hf] at k; exact k
  | exc c d ρ1 => rw [hf] at k; exact k
  | ok s ρ1 =>
    rw [hf] at k
    intro Z1 H1 o1 v T1 w1 a1
    obtain ⟨t, b, h1, h2, h3⟩ := k Z1 H1 o1 v T1 w1 a1
    exact ⟨v, .ty T.ty, t, .type T.ty, b, rfl, .ty _, h1, h2, h3⟩
end
end FW
end

section
set_option Elab.async false
set_option linter.all false
set_option maxRecDepth 100000
set_option autoImplicit false
/-! FW14: a lambda handed to a def that calls it. -/
namespace FW
open PySem PySem.Spec PyProof.Rows L2

/-- what a lambda's call answers -/
inductive LR where
  | ok (d : D)
  | exc (c : Str) (d : D)
  | stuck
def lamR : Res Src → LR
  | .ok s ρ => match s.get ρ with
    | some (.v d) => .ok d
    | _ => .stuck
  | .exc c d _ => .exc c d
  | .stuck => .stuck
def jAct (r : LR) : JF := fun ρ => match r with
  | .ok d => .ok (.tmp (.v d)) ρ
  | .exc c d => .exc c d ρ
  | .stuck => .stuck
/-- the slots of cs are frozen -/
def frz1 (i : Nat) (ρ : Env) : Env := match slotOf ρ i with
  | some m => match m.asD with
    | some d => ρ.set i (some (.v d))
    | none => ρ
  | none => ρ
def frzL : List Nat → Env → Env
  | [], ρ => ρ
  | i :: is, ρ => frzL is (frz1 i ρ)
/-- only these slots, and only data -/
def onlyV (cs : List Nat) (ρ : Env) : Env := (List.range ρ.length).map fun i => if cs.elem i then (match slotOf ρ i with
  | some (.v d) => some (.v d)
  | _ => none) else none
theorem onlyV_get {cs : List Nat} {ρ : Env} {i : Nat} {m : M} (h : (onlyV cs ρ)[i]? = some (some m)) : ∃ d, m = .v d ∧ ρ[i]? = some (some (.v d)) := by
  unfold onlyV at h
  rw [List.getElem?_map] at h
  cases e : (List.range ρ.length)[i]? with
  | none => rw [e] at h; cases h
  | some j =>
    have hi : i < ρ.length := by
      have := (List.getElem?_eq_some_iff.mp e).1
      simpa using this
    rw [List.getElem?_range hi] at e
    cases e
    rw [List.getElem?_range hi] at h
    have h2 : (if cs.elem i = true then (match slotOf ρ i with | some (.v d) => some (M.v d) | _ => none) else none) = some m := by simpa using h
    split at h2
    · split at h2
      · rename_i d hd
        cases h2
        exact ⟨d, rfl, slotOf_some hd⟩
      · cases h2
    · cases h2

open Classical in
/-- the tracked objects that are not tables -/
noncomputable def nt (H : Hp) : Hp := fun a => match H a with
  | some (.tbl _) => none
  | x => x
theorem nt_some {H : Hp} {a : Addr} {u : HO} (h : nt H a = some u) : H a = some u ∧ ∀ ps, u ≠ .tbl ps := by
  unfold nt at h
  split at h
  · cases h
  · rename_i hne
    exact ⟨h, fun ps z => hne ps (by rw [h, z])⟩
theorem nt_of {H : Hp} {a : Addr} {u : HO} (h : H a = some u) (n : ∀ ps, u ≠ .tbl ps) : nt H a = some u := by
  unfold nt
  rw [h]
  split
  · rename_i ps e
    cases e
    exact absurd rfl (n ps)
  · rfl
section
variable {C : Base} {Z Z' H H' : Hp} {o : Addr → Option Nat} {σ : St} {ρ : Env} {T : List (V × M)}
theorem Own.frz1 (w : Own C Z H o σ ρ T) (i : Nat) : ∃ Z' o', Sub Z Z' ∧ Own C Z' H o' σ (frz1 i ρ) T := by
  unfold FW.frz1
  split
  · rename_i m hm
    split
    · rename_i d hd
      obtain ⟨Z', o', v, hz, _, _, w'⟩ := w.frzS (slotOf_some hm) hd
      exact ⟨Z', o', hz, w'⟩
    · exact ⟨Z, o, Sub.rfl', w⟩
  · exact ⟨Z, o, Sub.rfl', w⟩
theorem Own.frzL : ∀ (is : List Nat) {Z : Hp} {o : Addr → Option Nat} {ρ : Env}, Own C Z H o σ ρ T → ∃ Z' o', Sub Z Z' ∧ Own C Z' H o' σ (frzL is ρ) T
  | [], Z, o, _, w => ⟨Z, o, Sub.rfl', w⟩
  | i :: is, _, _, _, w => by
    obtain ⟨Z1, o1, h1, w1⟩ := w.frz1 i
    obtain ⟨Z2, o2, h2, w2⟩ := Own.frzL is w1
    exact ⟨Z2, o2, h1.trans h2, w2⟩
/-- a later state in which all that was tracked stands, but the tables -/
theorem Own.grow (w : Own C Z H o σ ρ T) (hz : Sub Z Z') (hh : Sub (nt H) H') (zh : Sub Z' H') (zn : ∀ a u, Z' a = some u → Z a = some u ∨ nt H a = none) (tb : LamX.Tabs C.tb H') (zt : ∀ a ps, Z' a ≠ some (.tbl ps)) : Own C Z' H' o σ ρ T := by
  have ow : ∀ a n, o a = some n → ∃ u, nt H a = some u ∧ Ownable u := fun a n e => by
    obtain ⟨u, h1, h2⟩ := w.oh a n e
    exact ⟨u, nt_of h1 fun ps z => by rw [z] at h2; exact h2, h2⟩
  have mo : ∀ {k : Nat} {v : V} {m : M}, RM C.cls Z H (fun a => o a = some k) v m → RM C.cls Z' H' (fun a => o a = some k) v m := fun {k v m} r => r.mono hz fun a u hu p q => ⟨p, hh a u (nt_of q fun ps z => by rw [z] at hu; exact hu)⟩
  refine ⟨zh, fun a u e => hh a u (nt_of (w.gh a u e) fun ps z => w.gt a ps (by rw [e, z])), w.z0.trans hz, fun a u e => ?_, fun a n e => ?_, w.og, w.ln, w.lk, fun i m e => ?_, fun j v m e => mo (w.tp j v m e), w.gt, tb, fun a n e => ?_, w.zf.trans hz, zt⟩
  · rcases zn a u e with h | h
    · exact w.zg a u h
    · refine .inr ?_
      cases q : C.G a with
      | none => rfl
      | some u' =>
        rw [nt_of (w.gh a u' q) fun ps z => w.gt a ps (by rw [q, z])] at h
        cases h
  · cases q : Z' a with
    | none => rfl
    | some u =>
      obtain ⟨u', h1, _⟩ := ow a n e
      rcases zn a u q with h | h
      · rw [w.oz a n e] at h
        cases h
      · rw [h1] at h
        cases h
  · obtain ⟨v, h1, h2⟩ := w.sl i m e
    exact ⟨v, h1, mo h2⟩
  · obtain ⟨u, h1, h2⟩ := ow a n e
    exact ⟨u, hh a u h1, h2⟩
end
theorem codeO_nt {c : Addr} {q : Str} : ∀ ps : Array Value, LamX.CodeO c q ≠ .tbl ps := fun ps z => by
  have z' : HO.ext _ = HO.tbl ps := z
  cases z'
/-- the base of a lambda's body: nothing is owned -/
abbrev lamB (C : Base) (G : Hp) (σ : St) : Base := ⟨fun _ => none, G, C.n, [], σ, C.cls, C.tb, fun _ => none⟩
section
variable {X : Cx} {C : Base} {pins : List (Addr × Obj)} {σ : St} {H : Hp} {s : Shared}
/-- x(), in the def that got the lambda -/
theorem je_act {Zb Z : Hp} {o : Addr → Option Nat} {ρ : Env} {T : List (V × M)} {Cg : Base} {Eg : XK} {Ng : List Str} {qg : Str} {sg : Scope} {g f c' : Addr} {cdg pm ctv : Value} {params : Arguments} {body : Expr} {scope : Scope} {k : Nat} {a : Str} {pn : List (Addr × Obj)} {xe : Value → Shared → Prop} {W : WX} {fb : JF} {cs : List Nat} {p1 p2 : Pos}
    (I : Inv X pins σ H s) (w : Own (C.at Zb) Z H o σ ρ T) (L : LamX.LamS X.env.scope scope) (hf : s.heap.get? f = some (PySem.W.kla_obj "<lambda>" (X.env.qual ++ "<lambda>") params body scope (cloFrom X.env.cells scope.names []) pm c' ctv)) (hfn : H f = none) (hfr : f ∉ frs X.stack)
    (hbind : bindArgs (PySem.W.kla_fn "<lambda>" (X.env.qual ++ "<lambda>") params body scope (cloFrom X.env.cells scope.names []) pm (.ref c') ctv) ⟨[], []⟩ = pure [])
    (tk : Takes ((cxOf (L2.CX X.prog X.w) X.prog X.w X.K X.mg X.base Ng qg sg g cdg X.A X.stack s H Eg).tr pn xe) W) (hr : Room (k + 1) (X.A.deeper (envOfC qg sg s.heap.objs.size g cdg)))
    (hbody : ∀ (A : Around) (outer : List PySem.Env) (s : Shared) (H : Hp) (E : XK) (G : Hp) (σ : St), Room k (A.deeper (LamX.lamEnv X scope s.heap.objs.size f c')) → JE (LamX.lamCx X A outer s H E scope f c') (lamB C G σ) (bW E) body fb)
    (hzf : Cg.Zf = Z) (hcls : Cg.cls = C.cls) (htb : Cg.tb = C.tb) (hG : Cg.G c' = some (LamX.CodeO c' (X.env.qual ++ "<lambda>"))) (hL : 0 ∈ Cg.L) (hσ : Cg.σ[0]? = some (some (.ref f)))
    (hN : Ng[0]? = some a) (hv : Vis sg a) (hd : (a == ("__debug__" : Str)) = false := by decide) (hcd : (a == ("__classdict__" : Str)) = false := by decide) :
    JE ((cxOf (L2.CX X.prog X.w) X.prog X.w X.K X.mg X.base Ng qg sg g cdg X.A X.stack s H Eg).tr pn xe) Cg W (.Call (.Name a p1) [] [] p2) (jAct (lamR (fb (onlyV cs ρ)))) := by
  refine ⟨fun pinsZ sZ σZ HZ Q IZ h => ?_⟩
  obtain ⟨Zc, Zz, oz, ρz, Tz, wz, kz⟩ := h
  have hs0 : σZ[0]? = some (some (.ref f)) := (wz.lk 0 hL).trans hσ
  refine wpAny_Call_Name_kw (thn ((pe_var (pos := p1) (i := 0) hN hv hd hcd).run pinsZ sZ σZ HZ (fun v H1 => v = .ref f ∧ H1 = HZ) IZ ⟨.ref f, hs0, rfl, rfl⟩) fun u s1 ⟨v, H1, I1, r1, ev, eH⟩ => ?_)
  subst ev
  rw [eH] at I1
  obtain rfl : u = Value.ref f := r1
  have of1 := I1.base.keep f _ hf hfn hfr (fun z => nomatch (show f ∈ ([] : List Addr) from z))
  refine PySem.W.callWith_F0 ⟨_, _, _, _, of1⟩ ?_
  have un : Un (frs X.stack) [] H HZ s.heap s1.heap := I1.base
  have hc : HZ c' = some (LamX.CodeO c' (X.env.qual ++ "<lambda>")) := wz.gh _ _ hG
  obtain ⟨⟨oc, vs, t, hoc, hdc, hvc⟩, _, _⟩ := I1.hok c' _ hc
  have hzz : Sub Z Zz := by
    have := wz.zf
    rw [← hzf]
    exact this
  -- the lambda's own view: nothing owned, all guarded
  have wl : Own ((lamB C (nt HZ) σ).at Zz) Zz HZ (fun _ => none) σ (onlyV cs ρ) [] := by
    refine ⟨wz.zh, fun a u e => (nt_some e).1, Sub.rfl', fun a u e => .inl e, fun a n e => (by cases e), fun a n e => (by cases e), w.ln, fun i hi => (by cases hi), fun i m e => ?_, fun j v m e => (by cases e), fun a ps e => (nt_some e).2 ps rfl, by rw [← htb]; exact wz.tb, fun a n e => (by cases e), fun a u e => (by cases e), wz.zt⟩
    obtain ⟨d, rfl, e2⟩ := onlyV_get e
    obtain ⟨v, h1, h2⟩ := w.sl i _ e2
    exact ⟨v, h1, hzz.dp _ _ (show RD C.cls Z v d from h2)⟩
  have back : ∀ {Z2 H2 : Hp} {o2 : Addr → Option Nat} {ρ2 : Env} {T2 : List (V × M)}, Own ((lamB C (nt HZ) σ).at Zz) Z2 H2 o2 σ ρ2 T2 → Own (Cg.at Zc) Z2 H2 oz σZ ρz Tz := fun {Z2 H2 o2 ρ2 T2} w2 =>
    wz.grow w2.z0 w2.gh w2.zh (fun a u e => w2.zg a u e) (by
      have := w2.tb
      rw [show Base.tb (Cg.at Zc) = C.tb from htb]
      exact this) w2.zt
  have rc : codeAny (model X.prog X.w) (X.A.deeper (envOfC qg sg s.heap.objs.size g cdg)) (.call (.ref f) ⟨[], []⟩) (CR (L2.CX X.prog X.w) (envOfC qg sg s.heap.objs.size g cdg :: X.stack) X.prog X.w HZ s1 Q (fun cls d H => W cls d σZ H)) s1 := by
    refine PySem.W.kla_callFunE hr.depth of1 rfl L.co L.gen rfl ⟨c', oc, vs, t, rfl, hoc, hdc, hvc⟩ ?_
    rw [hbind]
    refine wpAny_pure (wpAny_newFunctionEnv (fun y hy => (L.own y hy).2) (fun y hy => absurd hy (by simp)) (fun h₁ hns hsb => ⟨I1.nolimit.fresh _ hsb, ?_⟩) L.kind)
    have kp : ∀ b o, s1.heap.get? b = some o → h₁.get? b = some o := fun b o e => hsb.extBut b o (Nat.ne_of_lt (Heap.lt_size e)) (Heap.get?_push_of_some _ e)
    have J := LamX.lam_start2 (E := fun cls d H => W cls d σZ H) (tk := s1.toks + ([] : List (Str × Value)).length) I L I1.env0 hr.hd un hns kp (c' := c') (f := f)
    have kk : tJ (lamB C (nt HZ) σ) (bW fun cls d H => W cls d σZ H) fb σ HZ Q := by
      refine ⟨Zz, Zz, _, onlyV cs ρ, [], wl, ?_⟩
      unfold jAct lamR at kz
      cases hfb : fb (onlyV cs ρ) with
      | stuck => rw [hfb] at kz; exact kz
      | exc c d ρ1 =>
        rw [hfb] at kz
        intro Z2 H2 o2 cl dx w2 x2
        refine kz Z2 H2 oz cl dx (back w2) ?_
        obtain ⟨f', y, x1, x2, x3, x4⟩ := x2
        exact ⟨f', y, by rw [show Base.cls (Cg.at Zc) = C.cls from hcls]; exact x1, x2, x3, by rw [show Base.cls (Cg.at Zc) = C.cls from hcls]; exact x4⟩
      | ok sr ρ1 =>
        rw [hfb] at kz
        intro Z2 H2 o2 v T2 w2 a2
        cases hg : sr.get ρ1 with
        | none => simp only [hg] at kz; exact kz.elim
        | some m =>
          simp only [hg] at kz
          cases m with
          | v d =>
            obtain ⟨P, r⟩ := a2.rm w2 (List.append_nil _).symm hg
            have r : RD C.cls Z2 v d := r
            have w3 := back w2
            obtain ⟨o4, w4⟩ := w3.push (v := v) (m := .v d) Sub.rfl' Sub.rfl' w3.zh (fun a u e => .inl e) (by
              show RD (Base.cls (Cg.at Zc)) Z2 v d
              rw [show Base.cls (Cg.at Zc) = C.cls from hcls]
              exact r)
            exact kz Z2 H2 o4 v _ w4 rfl
          | ml xs => exact kz.elim
          | mll xs => exact kz.elim
          | md xs => exact kz.elim
          | mt xs => exact kz.elim
          | sc xs => exact kz.elim
    refine PySem.W.kla_codeExpr (wpAny_mono ((hbody _ _ s1 HZ (fun cls d H => W cls d σZ H) (nt HZ) σ (hr.deeper _)).run [] _ σ HZ Q J kk) (fun v s' hq => ?_) fun e s' hq => hq)
    obtain ⟨w', H', J', rv, q⟩ := hq
    exact ⟨w', H', J'.os, J'.bare, J'.base, J'.hok, rv, q⟩
  refine wpAny_call (codeAny_mono rc fun r s' hq => ?_)
  cases r with
  | error e => exact tk e s' (XE.of_call I1 (fun cls d H' h => h) hq)
  | ok fl =>
    cases fl with
    | ret u => exact I1.after hq
    | next => exact False.elim hq
    | brk => exact False.elim hq
    | cont => exact False.elim hq
end
section
variable {C : Base} {Z H : Hp} {o : Addr → Option Nat} {σ : St} {ρ : Env} {T : List (V × M)} {v : V} {m : M}
/-- a result that another owner gives away -/
theorem Own.adopt {P : Addr → Prop} (w : Own C Z H o σ ρ T) (r : RM C.cls Z H P v m) (p1 : ∀ a, P a → o a = none) (p2 : ∀ a, P a → Z a = none) (p3 : ∀ a, P a → C.G a = none) (p4 : ∀ a, P a → ∃ u, H a = some u ∧ Ownable u) : ∃ o', Own C Z H o' σ ρ (T ++ [(v, m)]) := by
  classical
  obtain ⟨O, hO⟩ : ∃ O : Addr → Option Nat, ∀ a, O a = if P a then some (C.n + T.length) else if o a = some (C.n + T.length) then none else o a := ⟨_, fun a => rfl⟩
  have cut : ∀ a n, O a = some n → P a ∨ o a = some n := fun a n e => by
    rw [hO] at e
    split at e
    · exact .inl (by assumption)
    · split at e
      · cases e
      · exact .inr e
  have old : ∀ a n, o a = some n → n ≠ C.n + T.length → O a = some n := fun a n e ne => by
    rw [hO, if_neg (fun z => by rw [p1 a z] at e; cases e), if_neg (fun z => by rw [e] at z; exact ne (Option.some.inj z)), e]
  refine ⟨O, w.zh, w.gh, w.z0, w.zg, fun a n e => (cut a n e).elim (p2 a) (w.oz a n), fun a n e => (cut a n e).elim (p3 a) (w.og a n), w.ln, w.lk, fun i m' e => ?_, fun j v' m' e => ?_, w.gt, w.tb, fun a n e => (cut a n e).elim (p4 a) (w.oh a n), w.zf, w.zt⟩
  · obtain ⟨v', h1, h2⟩ := w.sl i m' e
    have := w.slot_lt e
    exact ⟨v', h1, h2.mono Sub.rfl' fun a u _ p q => ⟨old a i p (by omega), q⟩⟩
  · by_cases hj : j < T.length
    · rw [List.getElem?_append_left hj] at e
      exact (w.tp j v' m' e).mono Sub.rfl' fun a u _ p q => ⟨old a _ p (by omega), q⟩
    · have hj2 : j = T.length := by
        have := (List.getElem?_eq_some_iff.mp e).1
        simp at this
        omega
      subst hj2
      rw [List.getElem?_append_right (Nat.le_refl _)] at e
      simp at e
      obtain ⟨rfl, rfl⟩ := e
      exact r.mono Sub.rfl' fun a u _ p q => ⟨by rw [hO]; exact if_pos p, q⟩
end

/-- a def that calls what it got: what it computes, told of the answer -/
def HOk1 (P : Program) (w : World) (K : PySem.W.Frag) (mg : Str → Option Value) (base : Heap) (k : Nat) (g : Addr) (x a : Str) (st : Stmt) (Ng : List Str) (cls : Cls) (gG : LR → SF) : Prop :=
  ∀ (cdv : Value) (A : Around) (outer : List PySem.Env) (s : Shared) (H : Hp) (E : XK) (Z G : Hp) (σ : St) (tb : List (Addr × Str)) (Zf : Hp) (r : LR), Room k (A.deeper (envOfC x (defScope st) s.heap.objs.size g cdv)) →
    (∀ (pn : List (Addr × Obj)) (xe : Value → Shared → Prop) (W : WX) (p1 p2 : Pos), Takes ((cxOf (L2.CX P w) P w K mg base Ng x (defScope st) g cdv A outer s H E).tr pn xe) W →
      JE ((cxOf (L2.CX P w) P w K mg base Ng x (defScope st) g cdv A outer s H E).tr pn xe) ⟨Z, G, Ng.length, [0], σ, cls, tb, Zf⟩ W (.Call (.Name a p1) [] [] p2) (jAct r)) →
    JSs (cxOf (L2.CX P w) P w K mg base Ng x (defScope st) g cdv A outer s H E) ⟨Z, G, Ng.length, [0], σ, cls, tb, Zf⟩ (bW E) (defBody st) (gG r)
def jLam (n : Nat) (cs : List Nat) (gG : LR → SF) (fb : JF) : JF := fun ρ => match gG (lamR (fb (onlyV cs (frzL cs ρ)))) (List.replicate n none) with
  | .nx _ => .ok (.tmp (.v .none)) (frzL cs ρ)
  | .rt m _ => .ok (.tmp m) (frzL cs ρ)
  | .exc c d _ => .exc c d (frzL cs ρ)
  | _ => .stuck
section
variable {X : Cx} {C : Base} {W : WX}
theorem je_lam {x a : Str} {st : Stmt} {g c P : Addr} {fd : FuncData} {k : Nat} {Ng : List Str} {params : Arguments} {body : Expr} {scope : Scope} {gG : LR → SF} {fb : JF} {p lpos pos : Pos} (cs : List Nat)
    (F : Fun X.K x x st g fd) (hb : L2.Binds X.K fd [a] []) (Sg : FnScope Ng [a] (defScope st)) (hNg : Ng[0]? = some a) (hva : Vis (defScope st) a) (hH : HOk1 X.prog X.w X.K X.mg X.base (k + 1) g x a st Ng C.cls gG) (hg : Gl X x) (hm : X.mg x = some (.ref g))
    (TB : LamX.TabB X.base X.mg c P) (hcode : X.env.code = .ref c) (hmT : (P, X.env.qual ++ "<lambda>") ∈ C.tb) (hu : ∀ p ∈ C.tb, p.1 = P → p.2 = X.env.qual ++ "<lambda>") (hr : Room (k + 2) X.A) (tk : Takes X W) (L : LamX.LamS X.env.scope scope)
    (hdef : defaultsOf params X.env = ([], [])) (hbind : ∀ (q : Str) (cl : List (Str × Addr)) (pm cv ctv : Value), bindArgs (PySem.W.kla_fn "<lambda>" q params body scope cl pm cv ctv) ⟨[], []⟩ = pure [])
    (hbody : ∀ (A : Around) (outer : List PySem.Env) (s : Shared) (H : Hp) (E : XK) (f c' : Addr) (G : Hp) (σ : St), Room k (A.deeper (LamX.lamEnv X scope s.heap.objs.size f c')) → JE (LamX.lamCx X A outer s H E scope f c') (lamB C G σ) (bW E) body fb)
    (hdb : (x == ("__debug__" : Str)) = false := by decide) (hd : (a == ("__debug__" : Str)) = false := by decide) (hcd : (a == ("__classdict__" : Str)) = false := by decide) :
    JE X C W (.Call (.Name x p) [.Lambda params body scope lpos] [] pos) (jLam Ng.length cs gG fb) := by
  refine ⟨fun pins s σ H Q I h => ?_⟩
  obtain ⟨Zb, Z, o, ρ, T, w0, kz⟩ := h
  obtain ⟨Z0, o0, hz0, w⟩ := w0.frzL cs
  obtain ⟨oc, od, kV, doc, pm, an, cdv, ct, osl, rfl, lk, hcg⟩ := F.ex
  refine wpAny_Call_Name_kw (ld_glob I hg hm ?_ hdb)
  refine PySem.W.callWith_K (h₀ := X.base) I.ok.mod.kin F.kp ?_ (by rfl) (by rfl)
  show wpAny _ _ (spliced ((false, eval (.Lambda params body scope lpos) X.env) :: backTo pos (starEach [] X.env))) _ _ s
  refine Calls.spliced_cons (LamX.lam_make2 I TB hcode hmT hu w.tb hdef (L.has I.ok) fun f c' pm' ctv H1 s' I1 eN T1 hf hfn hfr hco => ?_)
  refine Calls.spliced_nil ⟨I1.kIn, ?_⟩
  have hnt : Sub (nt H) H1 := fun a u e => eN a u (nt_some e).1 (nt_some e).2
  have w1 : Own (C.at Zb) Z0 H1 o0 σ (frzL cs ρ) T := w.grow Sub.rfl' hnt (fun a u e => hnt a u (nt_of (w.zh a u e) fun ps z => w.zt a ps (by rw [e, z]))) (fun a u e => .inl e) T1 w.zt
  have rc : codeAny (model X.prog X.w) X.A (.call (.ref g) ⟨[.ref f], []⟩) (CR (L2.CX X.prog X.w) X.stack X.prog X.w H1 s' Q (fun cls d H => W cls d σ H)) s' := by
    refine LamX.run_ofS (N := Ng) (ps := [a]) (us := [.ref f]) (vs := [.ref f]) lk hcg Sg hr I1.env0 (hb s' [.ref f] I1.kIn rfl) (.cons (show RelV (.ref f) (.ref f) from rfl) .nil) rfl fun hr' => ?_
    have wc : Own ((⟨Z0, nt H1, Ng.length, [0], L2.start Ng [.ref f], C.cls, C.tb, Z0⟩ : Base).at Z0) Z0 H1 (fun _ => none) (L2.start Ng [.ref f]) (List.replicate Ng.length none) [] := by
      refine ⟨w1.zh, fun a u e => (nt_some e).1, Sub.rfl', fun a u e => .inl e, fun a n e => (by cases e), fun a n e => (by cases e), ?_, fun i hi => rfl, fun i m e => ?_, fun j v m e => (by cases e), fun a ps e => (nt_some e).2 ps rfl, w1.tb, fun a n e => (by cases e), Sub.rfl', w1.zt⟩
      · have h1 : 0 < Ng.length := (List.getElem?_eq_some_iff.mp hNg).1
        show (L2.start Ng [.ref f]).length = Ng.length
        unfold L2.start
        simp
        omega
      · have := List.mem_of_getElem? e
        rw [List.mem_replicate] at this
        cases this.2
    refine ⟨_, hH cdv X.A X.stack s' H1 (fun cls d H => W cls d σ H) Z0 (nt H1) (L2.start Ng [.ref f]) C.tb Z0 (lamR (fb (onlyV cs (frzL cs ρ)))) hr' (fun pn xe Wg p1 p2 tkg => je_act I1 w1 L hf hfn hfr (hbind _ _ _ _ _) tkg hr' (fun A outer s H E G σ hr2 => hbody A outer s H E f c' G σ hr2) rfl rfl rfl (nt_of hco codeO_nt) (List.mem_singleton.mpr rfl) ?_ hNg hva hd hcd), Z0, Z0, _, _, wc, ?_⟩
    · show (L2.start Ng [.ref f])[0]? = _
      unfold L2.start
      rfl
    · have fin : ∀ {Z2 H2 : Hp} {o2 : Addr → Option Nat} {σ2 : St} {ρ2 : Env} {T2 : List (V × M)}, Own ((⟨Z0, nt H1, Ng.length, [0], L2.start Ng [.ref f], C.cls, C.tb, Z0⟩ : Base).at Z0) Z2 H2 o2 σ2 ρ2 T2 → Own (C.at Zb) Z2 H2 o0 σ (frzL cs ρ) T := fun {Z2 H2 o2 σ2 ρ2 T2} w2 =>
        w1.grow w2.z0 w2.gh w2.zh w2.zg w2.tb w2.zt
      unfold jLam at kz
      cases hf0 : gG (lamR (fb (onlyV cs (frzL cs ρ)))) (List.replicate Ng.length none) with
      | stuck => rw [hf0] at kz; exact kz.elim
      | bk ρ1 => rw [hf0] at kz; exact kz.elim
      | ct ρ1 => rw [hf0] at kz; exact kz.elim
      | exc cc d ρ1 =>
        rw [hf0] at kz
        exact fun Z2 H2 o2 σ2 cl dx w2 x2 => kz Z2 H2 o0 cl dx (fin w2) x2
      | nx ρ1 =>
        rw [hf0] at kz
        intro Z2 H2 o2 σ2 w2
        have w3 := fin w2
        obtain ⟨o4, w4⟩ := w3.push (v := .non) (m := .v .none) Sub.rfl' Sub.rfl' w3.zh (fun a u e => .inl e) .non
        exact kz Z2 H2 o4 .non _ w4 rfl
      | rt m ρ1 =>
        rw [hf0] at kz
        intro Z2 H2 o2 σ2 v w2
        have w3 := fin w2
        have ng : ∀ a, o2 a = some (Ng.length + 0) → nt H1 a = none := fun a e => w2.og a _ e
        obtain ⟨o4, w4⟩ := w3.adopt (P := fun a => o2 a = some (Ng.length + 0)) (w2.tp 0 v m rfl) (fun a e => by
          cases q : o0 a with
          | none => rfl
          | some n =>
            obtain ⟨u, h1, h2⟩ := w1.oh a n q
            have := ng a e
            rw [nt_of h1 fun ps z => by rw [z] at h2; exact h2] at this
            cases this) (fun a e => w2.oz a _ e) (fun a e => by
          cases q : C.G a with
          | none => rfl
          | some u =>
            have := ng a e
            rw [nt_of (w1.gh a u q) fun ps z => w1.gt a ps (by rw [show (C.at Zb).G = C.G from rfl, q, z])] at this
            cases this) (fun a e => w2.oh a _ e)
        exact kz Z2 H2 o4 v _ w4 rfl
  refine wpAny_call (codeAny_mono rc fun r s2 hq => ?_)
  cases r with
  | error e => exact tk e s2 (XE.of_call I1 (fun cls d H' h => h) hq)
  | ok fl =>
    cases fl with
    | ret u => exact I1.after hq
    | next => exact False.elim hq
    | brk => exact False.elim hq
    | cont => exact False.elim hq
end
end FW
end

section
set_option Elab.async false
set_option linter.all false
set_option maxRecDepth 100000
set_option autoImplicit false
/-! FW15: how results are handed on; assignments. -/
namespace FW
open PySem PySem.Spec PyProof.Rows L2

/-- to be kept elsewhere: data is copied, what is owned is moved -/
def jTk (f : JF) : JF := fun ρ => (f ρ).bind fun s ρ1 => match s with
  | .slot i => match slotOf ρ1 i with
    | some m => if m.isData then .ok (.tmp m) ρ1 else .ok (.tmp m) (ρ1.set i none)
    | none => .stuck
  | .tmp m => .ok (.tmp m) ρ1
/-- an argument: a slot with data is copied, another is lent; a new value is frozen -/
def jArg (f : JF) : JF := fun ρ => (f ρ).bind fun s ρ1 => match s with
  | .slot i => match slotOf ρ1 i with
    | some m => if m.isData then .ok (.tmp m) ρ1 else .ok (.slot i) ρ1
    | none => .stuck
  | .tmp m => match m.asD with
    | some d => .ok (.tmp (.v d)) ρ1
    | none => .stuck
section
variable {X : Cx} {C : Base} {W : WX} {e : Expr} {f : JF}
theorem copy_rm {cls : Cls} {Z H : Hp} {P P' : Addr → Prop} {v : V} {m : M} (h : m.isData = true) (r : RM cls Z H P v m) : RM cls Z H P' v m := by
  cases m with
  | v d => exact r
  | _ => cases h
theorem tJ_tk {σ : St} {H : Hp} {Q : VK} (h : tJ C W (jTk f) σ H Q) : tJ C W f σ H Q := by
  obtain ⟨Zb, Z, o, ρ, T, w, k⟩ := h
  refine ⟨Zb, Z, o, ρ, T, w, ?_⟩
  unfold jTk at k
  cases hf : f ρ with
  | stuck => rw [hf] at k; exact k
  | exc c d ρ1 => rw [hf] at k; exact k
  | ok s ρ1 =>
    rw [hf] at k
    intro Z1 H1 o1 v T1 w1 a1
    simp only [Res.bind] at k
    cases s with
    | tmp m => exact k Z1 H1 o1 v T1 w1 a1
    | slot i =>
      simp only at k
      obtain ⟨a1, rfl⟩ := a1
      cases g : slotOf ρ1 i with
      | none => rw [g] at k; exact k.elim
      | some m =>
        rw [g] at k
        simp only at k
        cases hd : m.isData with
        | true =>
          rw [if_pos hd] at k
          obtain ⟨v', h1, h2⟩ := w1.sl i m (slotOf_some g)
          rw [a1] at h1
          cases h1
          obtain ⟨o3, w3⟩ := w1.push (v := v) (m := m) Sub.rfl' Sub.rfl' w1.zh (fun a u e => .inl e) (copy_rm hd h2)
          exact k Z1 H1 o3 v _ w3 rfl
        | false =>
          rw [if_neg (by rw [hd]; simp)] at k
          obtain ⟨o3, w3⟩ := w1.move (slotOf_some g) a1
          exact k Z1 H1 o3 v _ w3 rfl
theorem je_tk (h : JE X C W e f) : JE X C W e (jTk f) := PE.imp h fun _ _ _ => tJ_tk
theorem tJ_arg {σ : St} {H : Hp} {Q : VK} (h : tJ C W (jArg f) σ H Q) : tJ C W f σ H Q := by
  obtain ⟨Zb, Z, o, ρ, T, w, k⟩ := h
  refine ⟨Zb, Z, o, ρ, T, w, ?_⟩
  unfold jArg at k
  cases hf : f ρ with
  | stuck => rw [hf] at k; exact k
  | exc c d ρ1 => rw [hf] at k; exact k
  | ok s ρ1 =>
    rw [hf] at k
    intro Z1 H1 o1 v T1 w1 a1
    simp only [Res.bind] at k
    cases s with
    | slot i =>
      simp only at k
      cases g : slotOf ρ1 i with
      | none => rw [g] at k; exact k.elim
      | some m =>
        rw [g] at k
        simp only at k
        cases hd : m.isData with
        | true =>
          rw [if_pos hd] at k
          obtain ⟨a1, rfl⟩ := a1
          obtain ⟨v', h1, h2⟩ := w1.sl i m (slotOf_some g)
          rw [a1] at h1
          cases h1
          obtain ⟨o3, w3⟩ := w1.push (v := v) (m := m) Sub.rfl' Sub.rfl' w1.zh (fun a u e => .inl e) (copy_rm hd h2)
          exact k Z1 H1 o3 v _ w3 rfl
        | false =>
          rw [if_neg (by rw [hd]; simp)] at k
          exact k Z1 H1 o1 v T1 w1 a1
    | tmp m =>
      simp only at k
      cases hd : m.asD with
      | none => rw [hd] at k; exact k.elim
      | some d =>
        rw [hd] at k
        have a1 : T1 = T ++ [(v, m)] := a1
        subst a1
        obtain ⟨Z2, o2, _, w2⟩ := w1.frzT hd
        exact k Z2 H1 o2 v _ w2 rfl
theorem je_arg (h : JE X C W e f) : JE X C W e (jArg f) := PE.imp h fun _ _ _ => tJ_arg
end

/-! ### a temporary goes into a slot -/
section
variable {C : Base} {Z H : Hp} {o : Addr → Option Nat} {σ : St} {ρ : Env} {T : List (V × M)} {v : V} {m : M} {i j : Nat}
theorem Own.storeAt (w : Own C Z H o σ ρ T) (hT : T[j]? = some (v, m)) (hi : i < C.n) (hl : i ∉ C.L) : ∃ o', Own C Z H o' (σ.set i (some v)) (ρ.set i (some m)) (T.set j (.non, .v .none)) := by
  classical
  have r := w.tp j v m hT
  obtain ⟨O, hO⟩ : ∃ O : Addr → Option Nat, ∀ a, O a = if o a = some (C.n + j) then some i else if o a = some i then none else o a := ⟨_, fun a => rfl⟩
  have ev : ∀ a n, O a = some n → ∃ k, o a = some k := fun a n e => by
    rw [hO] at e
    split at e
    · exact ⟨_, by assumption⟩
    · split at e
      · exact ⟨_, by assumption⟩
      · exact ⟨_, e⟩
  have stay : ∀ a n, o a = some n → n ≠ C.n + j → n ≠ i → O a = some n := fun a n e h1 h2 => by
    rw [hO, if_neg (by rw [e]; intro z; exact h1 (Option.some.inj z)), if_neg (by rw [e]; intro z; exact h2 (Option.some.inj z)), e]
  refine ⟨O, w.zh, w.gh, w.z0, w.zg, fun a n e => (ev a n e).elim fun k e' => w.oz a k e', fun a n e => (ev a n e).elim fun k e' => w.og a k e', by simpa using w.ln, fun j' hj => ?_, fun j' m' e => ?_, fun j' v' m' e => ?_, w.gt, w.tb, fun a n e => (ev a n e).elim fun k e' => w.oh a k e', w.zf, w.zt⟩
  · rw [List.getElem?_set_ne (fun z : i = j' => hl (by rw [z]; exact hj))]
    exact w.lk j' hj
  · rcases set_get e with ⟨rfl, e1⟩ | ⟨ne, e1⟩
    · cases e1
      exact ⟨v, List.getElem?_set_self (by rw [w.ln]; exact hi), r.mono Sub.rfl' fun a u _ p q => ⟨by rw [hO, if_pos p], q⟩⟩
    · obtain ⟨v', h1, h2⟩ := w.sl j' m' e1
      have hlt := w.slot_lt e1
      exact ⟨v', by rw [List.getElem?_set_ne (Ne.symm ne)]; exact h1, h2.mono Sub.rfl' fun a u _ p q => ⟨stay a j' p (by omega) ne, q⟩⟩
  · by_cases hj : j = j'
    · subst hj
      rw [List.getElem?_set_self (List.getElem?_eq_some_iff.mp hT).1] at e
      cases e
      exact .non
    · rw [List.getElem?_set_ne hj] at e
      exact (w.tp j' v' m' e).mono Sub.rfl' fun a u _ p q => ⟨stay a _ p (by omega) (by omega), q⟩
theorem Own.none (w : Own C Z H o σ ρ T) : Own C Z H o σ ρ [] :=
  ⟨w.zh, w.gh, w.z0, w.zg, w.oz, w.og, w.ln, w.lk, w.sl, fun j v m e => (by cases e), w.gt, w.tb, w.oh, w.zf, w.zt⟩
end

/-! ### assignments -/
def tmps : List Src → Option (List M)
  | [] => some []
  | .tmp m :: ss => (tmps ss).map (m :: ·)
  | .slot _ :: _ => none
def setAll : List Nat → List M → Env → Option Env
  | [], [], ρ => some ρ
  | i :: is, m :: ms, ρ => setAll is ms (ρ.set i (some m))
  | _, _, _ => none
/-- a, b, .. = x, y, .. -/
def sPar (is : List Nat) (h : AF) : SF := fun ρ => match h ρ with
  | .ok ss ρ1 => match (tmps ss).bind fun ms => setAll is ms ρ1 with
    | some ρ2 => .nx ρ2
    | none => .stuck
  | .exc c d ρ1 => .exc c d ρ1
  | .stuck => .stuck
/-- target = e, the value data -/
def sAsg (f : JF) (G : GF) : SF := fun ρ => match f ρ with
  | .ok s ρ1 => match s with
    | .tmp (.v d) => match G d ρ1 with
      | some ρ2 => .nx ρ2
      | none => .stuck
    | _ => .stuck
  | .exc c d ρ1 => .exc c d ρ1
  | .stuck => .stuck
theorem tmps_at {σ : St} : ∀ {ss : List Src} {T T' : List (V × M)} {vs : List V} {ms : List M}, Ats σ T T' vs ss → tmps ss = some ms → vs.length = ms.length ∧ T' = T ++ vs.zip ms
  | [], T, T', vs, ms, h, e => by
    cases e
    obtain ⟨rfl, rfl⟩ := h
    simp
  | s :: ss, T, T', vs, ms, h, e => by
    obtain ⟨v, r, T1, rfl, h1, h2⟩ := h
    cases s with
    | slot i => cases e
    | tmp m =>
      unfold tmps at e
      cases hr : tmps ss with
      | none => rw [hr] at e; cases e
      | some ms' =>
        rw [hr] at e
        cases e
        obtain ⟨e1, e2⟩ := tmps_at h2 hr
        have h1 : T1 = T ++ [(v, m)] := h1
        subst h1
        exact ⟨by simp [e1], by rw [e2]; simp⟩
section
variable {X : Cx} {C : Base} {W : WX} {e : Expr} {es : List Expr} {f : JF} {h : AF} {G : GF} {S : List Nat} {pos : Pos}
theorem tS_asg {D : Ends} {σ : St} {H : Hp} (k : tS C W (sAsg f G) D σ H) : tAsg (tJ C W f) (tG C G S) D σ H := by
  obtain ⟨Zb, Z, o, ρ, w, k⟩ := k
  refine ⟨Zb, Z, o, ρ, [], w, ?_⟩
  unfold sAsg at k
  cases hf : f ρ with
  | stuck => rw [hf] at k; exact k
  | exc c d ρ1 => rw [hf] at k; exact fun Z1 H1 o1 cl dx w1 x1 => k Z1 H1 o1 σ cl dx w1 x1
  | ok s ρ1 =>
    rw [hf] at k
    intro Z1 H1 o1 v T1 w1 a1
    cases s with
    | slot i => exact k.elim
    | tmp m =>
      cases m with
      | v d =>
        have a1 : T1 = [] ++ [(v, M.v d)] := a1
        subst a1
        refine ⟨Zb, Z1, o1, ρ1, [], d, w1.drop, w1.last, ?_⟩
        simp only at k
        cases hg : G d ρ1 with
        | none => rw [hg] at k; exact k.elim
        | some ρ2 =>
          rw [hg] at k
          exact fun Z2 H2 o2 σ2 _ _ w2 => k Z2 H2 o2 σ2 w2
      | ml xs => exact k.elim
      | mll xs => exact k.elim
      | md xs => exact k.elim
      | mt xs => exact k.elim
      | sc xs => exact k.elim
theorem js_asg {tg : Expr} (ha : JE X C W e f) (hg : JG X C tg G S) (hs : swapsWithSole [tg] e pos.line X.env = pure false := by rfl) (hw : swappedStores [tg] e X.env = pure none := by rfl)
    (h1 : (assignEach [tg] X.env).map (·.2) = [assign tg X.env] := by rfl) : JS X C W (.Assign [tg] e pos) (sAsg f G) := PS.imp (ps_asg ha hg hs hw h1) fun _ _ _ => tS_asg
theorem tS_par2 {i j : Nat} (hi : Nat.blt i C.n = true) (hl : C.L.elem i = false) (hj : Nat.blt j C.n = true) (hl2 : C.L.elem j = false) {D : Ends} {σ : St} {H : Hp} (k : tS C W (sPar [i, j] h) D σ H) : tPar i j (tA C W h) D σ H := by
  obtain ⟨Zb, Z, o, ρ, w, k⟩ := k
  refine ⟨Zb, Z, o, ρ, [], w, ?_⟩
  unfold sPar at k
  cases hf : h ρ with
  | stuck => rw [hf] at k; exact k
  | exc c d ρ1 => rw [hf] at k; exact fun Z1 H1 o1 cl dx w1 x1 => k Z1 H1 o1 σ cl dx w1 x1
  | ok ss ρ1 =>
    rw [hf] at k
    intro Z1 H1 o1 vs T1 w1 a1
    simp only at k
    cases ht : tmps ss with
    | none => rw [ht] at k; exact k.elim
    | some ms =>
      rw [ht] at k
      obtain ⟨e1, e2⟩ := tmps_at a1 ht
      rcases ms with _ | ⟨m1, _ | ⟨m2, _ | ⟨m3, ms⟩⟩⟩
      · exact k.elim
      · exact k.elim
      · obtain ⟨v1, v2, rfl⟩ : ∃ v1 v2, vs = [v1, v2] := by
          rcases vs with _ | ⟨v1, _ | ⟨v2, _ | ⟨v3, vs⟩⟩⟩ <;> simp at e1
          exact ⟨v1, v2, rfl⟩
        subst e2
        refine ⟨v1, v2, rfl, ?_⟩
        obtain ⟨o2, w2⟩ := w1.storeAt (j := 0) (v := v1) (m := m1) rfl (blt_lt hi) (notin_of hl)
        obtain ⟨o3, w3⟩ := w2.storeAt (j := 1) (v := v2) (m := m2) rfl (blt_lt hj) (notin_of hl2)
        exact k Z1 H1 o3 _ w3.none
      · exact k.elim
theorem js_par2 {i j : Nat} {x y : Str} {a b : Expr} {px py pt : Pos} {kt k2 pt2} (hc : X.calm = true) (hN : X.N.Nodup) (hx : X.N[i]? = some x) (hy : X.N[j]? = some y) (hij : i ≠ j)
    (hvx : X.env.scope.names.lookup x = some .local) (hvy : X.env.scope.names.lookup y = some .local) (ha : JA X C W [a, b] h)
    (hw : swappedStores [.Tuple [.Name x px, .Name y py] kt pt] (.Tuple [a, b] k2 pt2) X.env = pure (some [x, y]))
    (hi : Nat.blt i C.n = true := by rfl) (hl : C.L.elem i = false := by rfl) (hj : Nat.blt j C.n = true := by rfl) (hl2 : C.L.elem j = false := by rfl)
    (hs : swapsWithSole [.Tuple [.Name x px, .Name y py] kt pt] (.Tuple [a, b] k2 pt2) pos.line X.env = pure false := by rfl) :
    JS X C W (.Assign [.Tuple [.Name x px, .Name y py] kt pt] (.Tuple [a, b] k2 pt2) pos) (sPar [i, j] h) := PS.imp (ps_par hc hN hx hy hij hvx hvy ha hw hs) fun _ _ _ => tS_par2 hi hl hj hl2
theorem tS_par3 {i j l : Nat} (hi : Nat.blt i C.n = true) (hl : C.L.elem i = false) (hj : Nat.blt j C.n = true) (hl2 : C.L.elem j = false) (hl0 : Nat.blt l C.n = true) (hl3 : C.L.elem l = false) {D : Ends} {σ : St} {H : Hp} (k : tS C W (sPar [i, j, l] h) D σ H) : tPar3 i j l (tA C W h) D σ H := by
  obtain ⟨Zb, Z, o, ρ, w, k⟩ := k
  refine ⟨Zb, Z, o, ρ, [], w, ?_⟩
  unfold sPar at k
  cases hf : h ρ with
  | stuck => rw [hf] at k; exact k
  | exc c d ρ1 => rw [hf] at k; exact fun Z1 H1 o1 cl dx w1 x1 => k Z1 H1 o1 σ cl dx w1 x1
  | ok ss ρ1 =>
    rw [hf] at k
    intro Z1 H1 o1 vs T1 w1 a1
    simp only at k
    cases ht : tmps ss with
    | none => rw [ht] at k; exact k.elim
    | some ms =>
      rw [ht] at k
      obtain ⟨e1, e2⟩ := tmps_at a1 ht
      rcases ms with _ | ⟨m1, _ | ⟨m2, _ | ⟨m3, _ | ⟨m4, ms⟩⟩⟩⟩
      · exact k.elim
      · exact k.elim
      · exact k.elim
      · obtain ⟨v1, v2, v3, rfl⟩ : ∃ v1 v2 v3, vs = [v1, v2, v3] := by
          rcases vs with _ | ⟨v1, _ | ⟨v2, _ | ⟨v3, _ | ⟨v4, vs⟩⟩⟩⟩ <;> simp at e1
          exact ⟨v1, v2, v3, rfl⟩
        subst e2
        refine ⟨v1, v2, v3, rfl, ?_⟩
        obtain ⟨o2, w2⟩ := w1.storeAt (j := 0) (v := v1) (m := m1) rfl (blt_lt hi) (notin_of hl)
        obtain ⟨o3, w3⟩ := w2.storeAt (j := 1) (v := v2) (m := m2) rfl (blt_lt hj) (notin_of hl2)
        obtain ⟨o4, w4⟩ := w3.storeAt (j := 2) (v := v3) (m := m3) rfl (blt_lt hl0) (notin_of hl3)
        exact k Z1 H1 o4 _ w4.none
      · exact k.elim
theorem js_par3 {i j l : Nat} {x y z : Str} {a b c : Expr} {px py pz pt : Pos} {kt k2 pt2} (hc : X.calm = true) (hN : X.N.Nodup) (hx : X.N[i]? = some x) (hy : X.N[j]? = some y) (hz : X.N[l]? = some z) (hij : i ≠ j) (hil : i ≠ l) (hjl : j ≠ l)
    (hvx : X.env.scope.names.lookup x = some .local) (hvy : X.env.scope.names.lookup y = some .local) (hvz : X.env.scope.names.lookup z = some .local) (ha : JA X C W [a, b, c] h)
    (hw : swappedStores [.Tuple [.Name x px, .Name y py, .Name z pz] kt pt] (.Tuple [a, b, c] k2 pt2) X.env = pure (some [x, y, z]))
    (hi : Nat.blt i C.n = true := by rfl) (hl : C.L.elem i = false := by rfl) (hj : Nat.blt j C.n = true := by rfl) (hl2 : C.L.elem j = false := by rfl) (hl0 : Nat.blt l C.n = true := by rfl) (hl3 : C.L.elem l = false := by rfl)
    (hs : swapsWithSole [.Tuple [.Name x px, .Name y py, .Name z pz] kt pt] (.Tuple [a, b, c] k2 pt2) pos.line X.env = pure false := by rfl) :
    JS X C W (.Assign [.Tuple [.Name x px, .Name y py, .Name z pz] kt pt] (.Tuple [a, b, c] k2 pt2) pos) (sPar [i, j, l] h) := PS.imp (ps_par3 hc hN hx hy hz hij hil hjl hvx hvy hvz ha hw hs) fun _ _ _ => tS_par3 hi hl hj hl2 hl0 hl3
end
end FW
end

section
set_option Elab.async false
set_option linter.all false
set_option maxRecDepth 100000
set_option autoImplicit false
/-! FW16: slices, enumerate, name op= e, displays of dicts. -/
namespace FW
open PySem PySem.Spec PyProof.Rows L2

/-! ### slices -/
abbrev OF := Env → Res (Option Int)
section
variable (C : Base) (W : WX)
def kO (σ : St) (T : List (V × M)) (r : Res (Option Int)) (Q : Option Int → Hp → Prop) : Prop := match r with
  | .ok i ρ => ∀ Z H o, Own C Z H o σ ρ T → Q i H
  | .exc c d ρ => ∀ Z H o cl dx, Own C Z H o σ ρ T → Exc C.cls Z H c d cl dx → W (.ref cl) (some dx) σ H
  | .stuck => False
def tO (f : OF) : TO := fun σ H Q => ∃ Zb Z o ρ T, Own (C.at Zb) Z H o σ ρ T ∧ kO (C.at Zb) W σ T (f ρ) Q
end
abbrev JO (X : Cx) (C : Base) (W : WX) (e : Option Expr) (f : OF) : Prop := PO X e (tO C W f)
theorem PO.imp {X : Cx} {e : Option Expr} {t t' : TO} (h : PO X e t) (i : ∀ σ H Q, t' σ H Q → t σ H Q) : PO X e t' := ⟨fun pins s σ H Q I q => h.run pins s σ H Q I (i σ H Q q)⟩
def oNo : OF := fun ρ => .ok none ρ
def oPt (f : JF) : OF := fun ρ => (f ρ).bind fun s ρ1 => match s.get ρ1 with
  | some (.v (.int i)) => .ok (some i) ρ1
  | _ => .stuck
def cutD {α : Type} (xs : List α) (lo hi : Option Int) : List α := (xs.drop (HT.sIx xs.length 0 lo)).take (HT.sIx xs.length xs.length hi - HT.sIx xs.length 0 lo)
def mSl (m : M) (lo hi : Option Int) : Option M := match m with
  | .v (.list xs) => some (.ml (cutD xs lo hi))
  | .ml xs => some (.ml (cutD xs lo hi))
  | .sc ns => some (.ml ((cutD ns lo hi).map .int))
  | .v (.tuple xs) => some (.v (.tuple (cutD xs lo hi)))
  | .v (.str z) => if sizeOk z.length then some (.v (.str (cutS z lo hi))) else none
  | _ => none
def jSl (f : JF) (gl gh : OF) : JF := fun ρ => (f ρ).bind fun s ρ1 => (gl ρ1).bind fun l ρ2 => (gh ρ2).bind fun u ρ3 => match s.get ρ3 with
  | some m => res (mSl m l u) ρ3
  | none => .stuck
def rSl (K : PySem.W.Frag) : V → Option Int → Option Int → Hp → VK → Prop := fun x lo hi H Q => (rSlL K x lo hi H Q ∨ rSlA K x lo hi H Q) ∨ rSlS x lo hi H Q
section
variable {X : Cx} {C : Base} {W : WX} {e : Expr} {f : JF} {gl gh : OF} {lo hi : Option Expr} {pos p2 : Pos}
theorem jo_none : JO X C W none oNo := PO.imp po_none fun σ H Q k => by
  obtain ⟨Zb, Z, o, ρ, T, w, k⟩ := k
  exact k Z H o w
theorem jo_some (h : JE X C W e f) : JO X C W (some e) (oPt f) := PO.imp (po_some h) fun σ H Q k => by
  obtain ⟨Zb, Z, o, ρ, T, w, k⟩ := k
  refine ⟨Zb, Z, o, ρ, T, w, ?_⟩
  unfold oPt at k
  cases hf : f ρ with
  | stuck => rw [hf] at k; exact k
  | exc c d ρ1 => rw [hf] at k; exact k
  | ok s ρ1 =>
    rw [hf] at k
    simp only [Res.bind_ok] at k
    intro Z1 H1 o1 v T1 w1 a1
    obtain ⟨R, e1⟩ := a1.pre
    split at k
    · rename_i i hg
      obtain ⟨P, r⟩ := a1.rm w1 (List.append_nil _).symm hg
      exact ⟨i, rd_int r, k Z1 H1 o1 (w1.cut e1)⟩
    · exact k.elim
theorem RDs.cut {cls : Cls} {Z : Hp} {xs : List V} {ds : List D} (r : RDs cls Z xs ds) (lo hi : Option Int) : RDs cls Z (cutV xs lo hi) (cutD ds lo hi) := by
  unfold cutV cutD
  rw [r.length]
  exact (r.drop _).take _
theorem cut_whole {α : Type} {xs : List α} {lo hi : Option Int} (h : HT.sIx xs.length 0 lo = 0 ∧ HT.sIx xs.length xs.length hi = xs.length) : cutD xs lo hi = xs := by
  unfold cutD
  rw [h.1, h.2]
  simp
theorem sl_all {Z H : Hp} {x : V} {m m' : M} {lo hi : Option Int} {P : Addr → Prop} {Q : VK} {cls : Cls} {K : PySem.W.Frag} (hK : cls.K = K) (hs : Sub Z H) (r : RM cls Z H P x m) (h : mSl m lo hi = some m') (q : Give cls Z H m' Q) : rSl K x lo hi H Q := by
  unfold mSl at h
  split at h
  · cases h
    obtain ⟨a, ys, rfl, h1, h2⟩ := r.lst (xs := _) hs rfl
    exact .inl (.inl ⟨a, ys, rfl, .inl (.inl h1), fun p hp => give_ml hs (h2.cut lo hi) hp q⟩)
  · cases h
    obtain ⟨a, ys, rfl, h1, h2⟩ := r.lst (xs := _) hs rfl
    exact .inl (.inl ⟨a, ys, rfl, .inl (.inl h1), fun p hp => give_ml hs (h2.cut lo hi) hp q⟩)
  · rename_i ns
    cases h
    obtain ⟨a, rfl, h1⟩ := r
    refine .inl (.inl ⟨a, ns.map V.int, rfl, by rw [← hK]; exact hs.sq h1, fun p hp => give_ml hs ?_ hp q⟩)
    have e1 : cutV (ns.map V.int) lo hi = (cutD ns lo hi).map V.int := by
      unfold cutV cutD
      rw [List.length_map, List.map_take, List.map_drop]
    rw [e1]
    generalize cutD ns lo hi = zs
    induction zs with
    | nil => exact .nil
    | cons z zs ih => exact .cons (.int z) ih
  · rename_i xs
    cases h
    obtain ⟨l, us, rfl, h1, h2⟩ := RD.tupOf r
    refine .inl (.inr ⟨l, us, rfl, .inl (.inl (hs _ _ h1)), fun hw => ?_, fun hw p hp => give_tup hs (h2.cut lo hi) hp q⟩)
    rw [h2.length] at hw
    rw [cut_whole hw] at q
    exact give_v hs r q
  · rename_i z
    split at h
    · rename_i hz
      cases h
      obtain rfl := rd_str r
      exact .inr ⟨z, rfl, sizeOk_le hz, give_str hs q⟩
    · cases h
  · cases h
theorem tJ_sl (hK : C.cls.K = X.K) {σ : St} {H : Hp} {Q : VK} (k : tJ C W (jSl f gl gh) σ H Q) : tSl (rSl X.K) (tJ C W f) (tO C W gl) (tO C W gh) σ H Q := by
  obtain ⟨Zb, Z, o, ρ, T, w, k⟩ := k
  refine ⟨Zb, Z, o, ρ, T, w, ?_⟩
  unfold jSl at k
  cases hf : f ρ with
  | stuck => rw [hf] at k; exact k
  | exc c d ρ1 => rw [hf] at k; exact k
  | ok s ρ1 =>
    rw [hf] at k
    simp only [Res.bind_ok] at k
    intro Z1 H1 o1 v T1 w1 a1
    obtain ⟨R, e1⟩ := a1.pre
    refine ⟨Zb, Z1, o1, ρ1, T1, w1, ?_⟩
    cases hl : gl ρ1 with
    | stuck => rw [hl] at k; exact k.elim
    | exc c d ρ2 =>
      rw [hl] at k
      exact fun Z2 H2 o2 cl dx w2 x2 => k Z2 H2 o2 cl dx (w2.cut e1) x2
    | ok l ρ2 =>
      rw [hl] at k
      simp only [Res.bind_ok] at k
      intro Z2 H2 o2 w2
      refine ⟨Zb, Z2, o2, ρ2, T1, w2, ?_⟩
      cases hh : gh ρ2 with
      | stuck => rw [hh] at k; exact k.elim
      | exc c d ρ3 =>
        rw [hh] at k
        exact fun Z3 H3 o3 cl dx w3 x3 => k Z3 H3 o3 cl dx (w3.cut e1) x3
      | ok u ρ3 =>
        rw [hh] at k
        simp only [Res.bind_ok] at k
        intro Z3 H3 o3 w3
        cases hg : s.get ρ3 with
        | none => rw [hg] at k; exact k.elim
        | some m =>
          rw [hg] at k
          obtain ⟨P, r⟩ := a1.rm w3 (List.append_nil _).symm hg
          obtain ⟨m', e3, q⟩ := kJ_res (w3.cut e1) k
          exact sl_all hK w3.zh r e3 q
theorem je_sl (he : JE X C W e f) (hl : JO X C W lo gl) (hh : JO X C W hi gh) (hK : C.cls.K = X.K := by rfl) : JE X C W (.Subscript e (.Slice lo hi none p2) pos) (jSl f gl gh) :=
  PE.imp (pe_slice ((sl_list.or sl_tupA).or sl_str) he hl hh) fun _ _ _ => tJ_sl hK
end

/-! ### enumerate(list) -/
def enumD (n : Nat) : List D → List D
  | [] => []
  | d :: ds => .tuple [.int (n : Int), d] :: enumD (n + 1) ds
theorem enumD_len : ∀ (n : Nat) (ds : List D), (enumD n ds).length = ds.length
  | _, [] => rfl
  | n, _ :: ds => by
    show (enumD (n + 1) ds).length + 1 = ds.length + 1
    rw [enumD_len]
theorem enumD_get : ∀ {n i : Nat} {ds : List D} {d : D}, (enumD n ds)[i]? = some d → ∃ e, ds[i]? = some e ∧ d = .tuple [.int ((n + i : Nat) : Int), e]
  | _, _, [], _, h => by cases h
  | n, 0, e :: ds, d, h => ⟨e, rfl, (Option.some.inj h).symm⟩
  | n, i + 1, e :: ds, d, h => by
    obtain ⟨e', h1, h2⟩ := enumD_get (n := n + 1) (i := i) (ds := ds) h
    exact ⟨e', h1, by rw [h2, show n + 1 + i = n + (i + 1) by omega]⟩
theorem walks_enum {K : PySem.W.Frag} {cls : Cls} {Z : Hp} {a : Addr} {ds : List D} (r : RD cls Z (.ref a) (.list ds)) : Walks cls Z (Ite K a) (enumD 0 ds) := by
  cases r with
  | lst h1 h2 =>
    refine ⟨fun i H hs hi => ?_, fun i H hs hi => ⟨_, .inl (.inl (hs _ _ h1)), by rw [h2.length, ← enumD_len 0]; exact hi⟩, fun i H x H' Z1 d hz hs e y => ?_⟩
    · rw [enumD_len] at hi
      obtain ⟨v, h3, _⟩ := h2.get (List.getElem?_eq_getElem hi)
      exact ⟨_, v, .inl (.inl (hs _ _ h1)), h3⟩
    · obtain ⟨T, x', rfl, nT, rfl, y⟩ := y
      obtain ⟨e', g1, rfl⟩ := enumD_get e
      obtain ⟨v, h3, h4⟩ := h2.get g1
      have := y _ (.inl (.inl (hs _ _ (hz _ _ h1))))
      rw [h3] at this
      cases this
      refine ⟨upd Z1 T (.tup [.int (i : Nat), x']), Sub.new (hs.none nT), Sub.new nT, hs.upd, fun a u e => ?_, .tup upd_same (.cons ?_ (.cons ((Sub.new (hs.none nT)).dp _ _ (hz.dp _ _ h4)) .nil))⟩
      · by_cases ha : a = T
        · subst ha
          rw [upd_same] at e
          cases e
          exact .inr ⟨nT, fun ps z => nomatch z⟩
        · rw [upd_ne ha] at e
          exact .inl e
      · rw [Nat.zero_add]
        exact .int _
def iEn (g : AF) : IF := fun ρ => (g ρ).bind fun ss ρ1 => match ss with
  | [.tmp (.v (.list ds))] => .ok (enumD 0 ds) ρ1
  | _ => .stuck
theorem ji_enumL {X : Cx} {C : Base} {W : WX} {g : AF} {e : Expr} {p pos tpos : Pos} {elts : List Expr} {kk : Nat} (hg : Gl X "enumerate") (hm : X.mg "enumerate" = none) (ha : JA X C W [e] g) (hs : starEach [e] X.env = [(false, eval e X.env)] := by rfl) :
    JI X C W (.Tuple elts kk tpos) (.Call (.Name "enumerate" p) [e] [] pos) (iEn g) := by
  refine PI.imp (pi_enum hg hm ha hs) fun σ H R k => ?_
  obtain ⟨Zb, Z, o, ρ, T, w, k⟩ := k
  refine ⟨Zb, Z, o, ρ, T, w, ?_⟩
  unfold iEn at k
  cases hf : g ρ with
  | stuck => rw [hf] at k; exact k
  | exc c d ρ1 => rw [hf] at k; exact k
  | ok ss ρ1 =>
    rw [hf] at k
    simp only [Res.bind_ok] at k
    intro Z1 H1 o1 vs T1 w1 a1
    split at k
    · rename_i ds
      obtain ⟨v, r, T2, rfl, h1, h2⟩ := a1
      obtain ⟨rfl, e2⟩ := h2
      have h1 : T2 = T ++ [(v, M.v (.list ds))] := h1
      subst e2
      subst h1
      have r : RD C.cls Z1 v (.list ds) := w1.last
      obtain ⟨a, rfl⟩ := r.listref
      obtain ⟨xs, hx, _⟩ := r.sql (K := X.K) w1.zh
      exact ⟨a, xs, rfl, hx, k Z1 H1 o1 _ w1.drop (walks_enum r)⟩
    · exact k.elim

/-! ### name op= e, on ints -/
def ipF (op : Operator) (i j : Int) : Option Int := match op with
  | .Add => some (i + j)
  | .Sub => some (i - j)
  | .Mult => if mulOk i j then some (i * j) else none
  | _ => none
def rIp (op : Operator) : TIp := fun x y H Q => ∃ i j k, x = .int i ∧ y = .int j ∧ ipF op i j = some k ∧ Q (.int k) H
theorem mulOk_ok {i j : Int} (h : mulOk i j = true) : IntMulOk i j := by
  unfold mulOk at h
  simp only [Bool.or_eq_true, Bool.and_eq_true, decide_eq_true_eq] at h
  rcases h with (h | h) | h
  · exact IntMulOk.of_left (intBits_le_64 h.1 h.2)
  · exact IntMulOk.of_right (intBits_le_64 h.1 h.2)
  · exact CMulW.ok h
theorem ip_any {X : Cx} (op : Operator) : PIp X op (rIp op) := by
  intro pins s σ H x y v u Q I r1 r2 h
  obtain ⟨i, j, k, rfl, rfl, e, q⟩ := h
  cases op with
  | Add =>
    cases e
    exact ip_add pins s σ H _ _ v u Q I r1 r2 ⟨i, j, rfl, rfl, q⟩
  | Sub =>
    cases e
    exact ip_sub pins s σ H _ _ v u Q I r1 r2 ⟨i, j, rfl, rfl, q⟩
  | Mult =>
    unfold ipF at e
    simp only at e
    split at e
    · rename_i hz
      cases e
      obtain ⟨t, rfl⟩ := r1
      obtain ⟨t', rfl⟩ := r2
      exact PySem.AutoIntOps.imul_0 (show EP X pins σ Q (.int (i * j) s.toks) { s with toks := s.toks + 1 } from ⟨.int _, H, I.tok _, ⟨_, rfl⟩, q⟩) (mulOk_ok hz)
    · cases e
  | _ => cases e
def sAug (i : Nat) (op : Operator) (f : JF) : SF := fun ρ => match slotOf ρ i with
  | some (.v (.int a)) => match f ρ with
    | .ok s ρ1 => match s.get ρ1 with
      | some (.v (.int b)) => match ipF op a b with
        | some c => .nx (ρ1.set i (some (.v (.int c))))
        | none => .stuck
      | _ => .stuck
    | .exc c d ρ1 => .exc c d ρ1
    | .stuck => .stuck
  | _ => .stuck
section
variable {X : Cx} {C : Base} {W : WX} {e : Expr} {f : JF} {i : Nat} {op : Operator}
theorem tS_aug (hi : Nat.blt i C.n = true) (hl : C.L.elem i = false) {D : Ends} {σ : St} {H : Hp} (k : tS C W (sAug i op f) D σ H) : tAug i (tJ C W f) (rIp op) D σ H := by
  obtain ⟨Zb, Z, o, ρ, w, k⟩ := k
  unfold sAug at k
  split at k
  · rename_i a ha
    obtain ⟨x, hx, r⟩ := w.sl i _ (slotOf_some ha)
    obtain rfl := rd_int r
    refine ⟨.int a, hx, Zb, Z, o, ρ, [], w, ?_⟩
    cases hf : f ρ with
    | stuck => rw [hf] at k; exact k
    | exc c d ρ1 => rw [hf] at k; exact fun Z1 H1 o1 cl dx w1 x1 => k Z1 H1 o1 σ cl dx w1 x1
    | ok s ρ1 =>
      rw [hf] at k
      intro Z1 H1 o1 v T1 w1 a1
      simp only at k
      split at k
      · rename_i b hb
        obtain ⟨P, r1⟩ := a1.rm w1 (List.append_nil _).symm hb
        split at k
        · rename_i c hc
          obtain ⟨o2, w2⟩ := w1.none.push (v := .int c) (m := .v (.int c)) Sub.rfl' Sub.rfl' w1.zh (fun a u e => .inl e) (.int c)
          obtain ⟨o3, w3⟩ := w2.store (T := []) (blt_lt hi) (notin_of hl)
          exact ⟨a, b, c, rfl, rd_int r1, hc, k Z1 H1 o3 _ w3⟩
        · exact k.elim
      · exact k.elim
  · exact k.elim
theorem js_aug {x : Str} {pos pos' : Pos} (hN : X.N.Nodup) (hx : X.N[i]? = some x) (hv : Loc X.env.scope x) (ha : JE X C W e f) (hi : Nat.blt i C.n = true := by rfl) (hl : C.L.elem i = false := by rfl)
    (hf : X.fn x = true ∨ X.env.scope.names.lookup x = some .local := by first | exact .inl rfl | exact .inr rfl | assumption) : JS X C W (.AugAssign (.Name x pos') op e pos) (sAug i op f) := PS.imp (ps_aug hN hx hv ha (ip_any op) hf) fun _ _ _ => tS_aug hi hl
end

/-! ### {k: e, ..}, the keys written -/
def mergeM (kvs more : List (Key × D)) : List (Key × D) := more.foldl (fun acc kv => putM acc kv.1 kv.2) kvs
def dataS : List Src → Option (List D)
  | [] => some []
  | .tmp (.v d) :: ss => (dataS ss).map (d :: ·)
  | _ => none
def jDisp (ks : List Key) (h : AF) : JF := fun ρ => (h ρ).bind fun ss ρ1 => match dataS ss with
  | some ds => .ok (.tmp (.md (mergeM [] (ks.zip ds)))) ρ1
  | none => .stuck
/-- the pairs of a display: written keys, values by h -/
def JP (X : Cx) (C : Base) (W : WX) (pos : Pos) (keys : List (Option Expr)) (values : List Expr) (ks : List Key) (h : AF) : Prop :=
  ∃ trs, PPs X pos keys values trs ∧ ks.length = values.length ∧ ∀ σ H Q, tA C W h σ H (fun vs H' => Q ((ks.map kV).zip vs) H') → tPairs trs σ H Q
section
variable {X : Cx} {C : Base} {W : WX} {e ke : Expr} {f : JF} {h : AF} {pos : Pos} {keys : List (Option Expr)} {values : List Expr} {ks : List Key} {k : Key}
theorem tJ_mono {σ : St} {H : Hp} {Q Q' : VK} (k : tJ C W f σ H Q) (i : ∀ v H, Q v H → Q' v H) : tJ C W f σ H Q' := by
  obtain ⟨Zb, Z, o, ρ, T, w, k⟩ := k
  refine ⟨Zb, Z, o, ρ, T, w, ?_⟩
  cases hf : f ρ with
  | stuck => rw [hf] at k; exact k
  | exc c d ρ1 => rw [hf] at k; exact k
  | ok s ρ1 =>
    rw [hf] at k
    exact fun Z H o v T w a => i _ _ (k Z H o v T w a)
theorem jp_nil : JP X C W pos [] [] [] aNil := ⟨[], pps_nil, rfl, fun σ H Q k => by
  obtain ⟨Zb, Z, o, ρ, T, w, k⟩ := k
  exact k Z H o [] T w ⟨rfl, rfl⟩⟩
theorem jp_cons (hk : PE X ke (tC (kV k))) (hv : JE X C W e f) (hr : JP X C W pos keys values ks h) : JP X C W pos (some ke :: keys) (e :: values) (k :: ks) (aCons f h) := by
  obtain ⟨trs, h1, h2, h3⟩ := hr
  exact ⟨_, pps_cons hk hv h1, by simp [h2], fun σ H Q q => tJ_mono (tA_cons q) fun x H1 q1 => h3 σ H1 _ q1⟩
theorem RKs.merge {cls : Cls} {Z : Hp} : ∀ {more : List (Key × V)} {moreD : List (Key × D)} {ys : List (Key × V)} {kvs : List (Key × D)}, RKs cls Z more moreD → RKs cls Z ys kvs → RKs cls Z (mergeK ys more) (mergeM kvs moreD)
  | [], [], _, _, .nil, r => r
  | (k1, v) :: more, (k2, d) :: moreD, ys, kvs, .cons h t, r => by
    obtain ⟨e, r1⟩ := h
    have e : k1 = k2 := e
    subst e
    exact RKs.merge (more := more) (moreD := moreD) t (RKs.put r r1 k1)
theorem datas_at {σ : St} {cls : Cls} {Z : Hp} {C : Base} {H : Hp} {o : Addr → Option Nat} {ρ : Env} : ∀ {ss : List Src} {T T' : List (V × M)} {vs : List V} {ds : List D}, Ats σ T T' vs ss → dataS ss = some ds → T' = T ++ vs.zip (ds.map .v) ∧ vs.length = ds.length
  | [], T, T', vs, ds, h, e => by
    cases e
    obtain ⟨rfl, rfl⟩ := h
    simp
  | s :: ss, T, T', vs, ds, h, e => by
    obtain ⟨v, r, T1, rfl, h1, h2⟩ := h
    cases s with
    | slot i => cases e
    | tmp m =>
      cases m with
      | v d =>
        have e : (dataS ss).map (d :: ·) = some ds := e
        cases hr : dataS ss with
        | none => rw [hr] at e; cases e
        | some ds' =>
          rw [hr] at e
          cases e
          obtain ⟨e1, e2⟩ := datas_at (cls := cls) (Z := Z) (C := C) (H := H) (o := o) (ρ := ρ) h2 hr
          have h1 : T1 = T ++ [(v, .v d)] := h1
          subst h1
          exact ⟨by rw [e1]; simp, by simp [e2]⟩
      | _ => cases e
theorem rds_of_temps {C : Base} {Z H : Hp} {o : Addr → Option Nat} {σ : St} {ρ : Env} : ∀ {vs : List V} {ds : List D} {T : List (V × M)}, Own C Z H o σ ρ (T ++ vs.zip (ds.map .v)) → vs.length = ds.length → RDs C.cls Z vs ds
  | [], [], _, _, _ => .nil
  | [], _ :: _, _, _, h => by cases h
  | _ :: _, [], _, _, h => by cases h
  | v :: vs, d :: ds, T, w, h => by
    have w' : Own C Z H o σ ρ ((T ++ [(v, .v d)]) ++ vs.zip (ds.map .v)) := by
      rw [List.append_assoc]
      exact w
    refine .cons ?_ (rds_of_temps w' (by simpa using h))
    have := w'.drop.last
    exact this
theorem rks_zip {cls : Cls} {Z : Hp} : ∀ {ks : List Key} {vs : List V} {ds : List D}, RDs cls Z vs ds → RKs cls Z (ks.zip vs) (ks.zip ds)
  | [], _, _, _ => .nil
  | _ :: _, _, _, .nil => .nil
  | _ :: _, _, _, .cons h t => .cons ⟨rfl, h⟩ (rks_zip t)
theorem je_disp (hp : JP X C W pos keys values ks h) (hall : keys.all (·.isSome) = true) (hl : keys.length = values.length) (h0 : keys ≠ []) (h15 : keys.length ≤ 15) : JE X C W (.Dict keys values pos) (jDisp ks h) := by
  obtain ⟨trs, h1, h2, h3⟩ := hp
  refine PE.imp (pe_disp h1 hall hl h0 h15) fun σ H Q k => ?_
  obtain ⟨Zb, Z, o, ρ, T, w, k⟩ := k
  intro p hp
  refine h3 _ _ _ ?_
  obtain ⟨o1, w1⟩ := w.push (v := .ref p) (m := .md []) Sub.rfl' (Sub.new hp) (w.zh.updR (w.zh.none hp)) (fun a u e => .inl e) ⟨p, [], rfl, ⟨hp, w.zh.none hp⟩, upd_same, .nil⟩
  refine ⟨Zb, Z, o1, ρ, _, w1, ?_⟩
  unfold jDisp at k
  cases hf : h ρ with
  | stuck => rw [hf] at k; exact k
  | exc c d ρ1 =>
    rw [hf] at k
    exact fun Z2 H2 o2 cl dx w2 x2 => k Z2 H2 o2 cl dx w2.drop x2
  | ok ss ρ1 =>
    rw [hf] at k
    simp only [Res.bind_ok] at k
    intro Z2 H2 o2 vs T2 w2 a2
    cases hd : dataS ss with
    | none => rw [hd] at k; exact k.elim
    | some ds =>
      rw [hd] at k
      obtain ⟨rfl, elen⟩ := datas_at (cls := C.cls) (Z := Z2) (C := C.at Zb) (H := H2) (o := o2) (ρ := ρ1) a2 hd
      have rv := rds_of_temps w2 elen
      have w3 : Own (C.at Zb) Z2 H2 o2 σ ρ1 (T ++ [(V.ref p, M.md [])]) := w2.drop
      obtain ⟨a, ys, ea, ho, ha, hk⟩ := w3.last
      cases ea
      cases hk
      refine ⟨ha, ks.zip vs, by rw [List.zip_map_left]; simp [Function.comp_def, Prod.map], ?_, ?_⟩
      · rw [List.length_zip]
        omega
      · have ho : o2 p = some (C.n + T.length) := ho
        have w4 := w3.write (u := .dK (mergeK [] (ks.zip vs))) ho ha trivial trivial ρ1 (T ++ [(V.ref p, M.md (mergeM [] (ks.zip ds)))]) (fun i m e => .inl ⟨e, by have := w3.slot_lt e; show i ≠ C.n + T.length; have : i < C.n := this; omega⟩) (fun j v m e => by
          by_cases hj : j < T.length
          · rw [List.getElem?_append_left hj] at e
            exact .inl ⟨by rw [List.getElem?_append_left hj]; exact e, by show C.n + j ≠ C.n + T.length; omega⟩
          · have hj2 : j = T.length := by
              have := (List.getElem?_eq_some_iff.mp e).1
              simp at this
              omega
            subst hj2
            rw [List.getElem?_append_right (Nat.le_refl _)] at e
            simp at e
            obtain ⟨rfl, rfl⟩ := e
            exact .inr ⟨p, _, rfl, ho, upd_same, RKs.merge (rks_zip rv) .nil⟩)
        exact k Z2 _ o2 _ _ w4 rfl
end
end FW
end

section
set_option Elab.async false
set_option linter.all false
set_option maxRecDepth 100000
set_option autoImplicit false
/-! FW17: the exception classes of a program told once; the law's end. -/
namespace FW
open PySem PySem.Spec PyProof.Rows L2

/-- an exception class of the program: its name, its class's address, its field, its base (0: FlatError over ValueError, 1: OverflowError, 2: LookupError) -/
structure EC where
  n : Str
  a : Addr
  f : Str
  k : Nat
def bmT : Nat → List Value
  | 0 => [.type "ValueError", .type "Exception", .type "BaseException", .type "object"]
  | 1 => [.type "OverflowError", .type "ArithmeticError", .type "Exception", .type "BaseException", .type "object"]
  | _ => [.type "LookupError", .type "Exception", .type "BaseException", .type "object"]
def bmE (F : Addr) : Nat → List Value
  | 0 => .ref F :: bmT 0
  | k => bmT k
def newE : Nat → String
  | 0 => "ValueError.__new__"
  | 1 => "OverflowError.__new__"
  | _ => "LookupError.__new__"
def initE : Nat → String
  | 0 => "ValueError.__init__"
  | 1 => "OverflowError.__init__"
  | _ => "LookupError.__init__"
def baseE : Nat → String
  | 0 => "ValueError"
  | 1 => "OverflowError"
  | _ => "LookupError"
theorem xbE (k : Nat) : ExcBaseFacts (baseE k) (newE k) (initE k) (bmT k) := by
  rcases k with _ | _ | k
  · exact PySem.F.excBase_ValueError
  · exact PySem.F.excBase_OverflowError
  · exact PySem.F.excBase_LookupError
theorem xsE (k : Nat) : StoreFacts (baseE k) (bmT k) "object.__setattr__" "object" := by
  rcases k with _ | _ | k
  · exact PySem.F.store_ValueError
  · exact PySem.F.store_OverflowError
  · exact PySem.F.store_LookupError
/-- a class object as it stands in the written part -/
def ClsAt (K : PySem.W.Frag) (C : Addr) (bm : List Value) (newId : String) : Prop := ∃ nm q N bs sn sub ab col dd k0 k1 k2 k3 k5, K.lookup C = some (excClassObj nm q C N bs bm true sn sub ab col dd k0 k1 k2 k3 k5 newId)
section
variable {K : PySem.W.Frag} {C F : Addr} {bm : List Value} {newId : String}
theorem ClsAt.cls (h : ClsAt K C bm newId) : ∃ cd, PySem.W.clsIn K C = some cd ∧ cd.mro = .ref C :: bm ∧ cd.hasDict = true := by
  obtain ⟨nm, q, N, bs, sn, sub, ab, col, dd, k0, k1, k2, k3, k5, e⟩ := h
  refine ⟨{ name := nm, bases := bs, mro := .ref C :: bm, ns := N, qualname := q, hasDict := true, slotNames := sn, subclasses := sub, abstract := ab, collection := col, hasDel := false }, ?_, rfl, rfl⟩
  unfold PySem.W.clsIn
  rw [e] <;> rfl
theorem ClsAt.dct (h : ClsAt K C bm newId) : PySem.W.hasDictIn K C = true := by
  obtain ⟨cd, e, _, e2⟩ := h.cls
  unfold PySem.W.hasDictIn
  rw [e]
  exact e2
theorem ClsAt.sub (h : ClsAt K C bm newId) (b : Value) : PySem.W.subIn K (.ref C) b = some ((Value.ref C :: bm).contains b) := by
  obtain ⟨cd, e, e2, _⟩ := h.cls
  show PySem.W.mroIn K C b = _
  unfold PySem.W.mroIn
  rw [e, Option.bind_some, e2, if_neg (by simp)]
theorem ClsAt.ty (h : ClsAt K C bm newId) : PySem.W.typeIn K (.ref C) = some (.type "type") := by
  obtain ⟨nm, q, N, bs, sn, sub, ab, col, dd, k0, k1, k2, k3, k5, e⟩ := h
  show (K.lookup C).map (·.cls) = _
  rw [e]
  rfl
theorem ClsAt.ov {bmB : List Value} (h : ClsAt K C bm newId) (t : PySem.W.excTail bmB bm = true) : PySem.W.excOver K C bmB = true := by
  obtain ⟨cd, e, e2, _⟩ := h.cls
  unfold PySem.W.excOver
  rw [e]
  show (match cd.mro with | .ref C' :: bm => C' == C && PySem.W.excTail bmB bm | _ => false) = true
  rw [e2]
  show (C == C && PySem.W.excTail bmB bm) = true
  rw [t]
  simp
/-- isinstance, except: one class over another -/
theorem ClsAt.kit (h : ClsAt K C bm newId) {T : Addr} {bm2 : List Value} {id2 : String} (h2 : ClsAt K T bm2 id2) : PySem.W.kitOne K (.ref C) (.ref T) = some ((Value.ref C :: bm).contains (.ref T)) := by
  unfold PySem.W.kitOne
  by_cases e : (Value.ref C == Value.ref T) = true
  · rw [if_pos e]
    rw [List.contains_cons]
    have : (Value.ref T == Value.ref C) = true := by
      rw [beq_iff_eq] at e ⊢
      exact e.symm
    rw [this, Bool.true_or]
  · rw [if_neg e]
    obtain ⟨cd, c1, _⟩ := h2.cls
    unfold PySem.W.kitCls
    simp only
    rw [c1, h2.ty, if_pos (by simp), h.sub]
theorem ClsAt.kitT (h : ClsAt K C bm newId) {T : String} (hT : PySem.W.kitMeta T = true) : PySem.W.kitOne K (.ref C) (.type T) = some ((Value.ref C :: bm).contains (.type T)) := by
  unfold PySem.W.kitOne
  rw [if_neg (by simp)]
  unfold PySem.W.kitCls
  simp only
  rw [hT, if_pos rfl, h.sub]
theorem ClsAt.exm (h : ClsAt K C bm newId) {T : Addr} {bm2 : List Value} {id2 : String} (h2 : ClsAt K T bm2 id2) (hB : bm2.contains (.type "BaseException") = true) : PySem.W.exmOne K (.ref C) (.ref T) = some ((Value.ref C :: bm).contains (.ref T)) :=
  PySem.W.exm_ref (by rw [h2.sub, List.contains_cons, hB, Bool.or_true]) h2.dct h2.ty (h.sub _)
end
/-- the class's facts -/
structure ECok (K : PySem.W.Frag) (F : Addr) (e : EC) : Prop where
  at_ : ClsAt K e.a (bmE F e.k) (newE e.k)
  sa : PySem.W.findIn K (.ref e.a) "__setattr__" = some (some (.builtin "object.__setattr__"))
  ga : PySem.W.findIn K (.ref e.a) "__getattribute__" = some (some (.builtin "BaseException.__getattribute__"))
  gg : PySem.W.findIn K (.ref e.a) "__getattr__" = some none
  no : PySem.W.findIn K (.ref e.a) e.f = some none
  ca : PySem.W.findIn K (.ref e.a) "__class__" = some (some (.builtin "object.__class__"))
  kC : PySem.W.keepIn K (.ref e.a) = true
  hn : PySem.W.specialIn K (.builtin "object.__class__") "__get__" = some (some (.builtin "getset_descriptor.__get__"))
  ht : PySem.W.takesIn K (.builtin "object.__class__") = some true
theorem bmE_base (F : Addr) (k : Nat) : (bmE F k).contains (.type "BaseException") = true := by
  rcases k with _ | _ | k <;> rfl
theorem bmE_obj (F : Addr) (k : Nat) : (bmE F k).contains (.type "object") = true := by
  rcases k with _ | _ | k <;> rfl
theorem bmE_tail (F : Addr) (k : Nat) : PySem.W.excTail (bmT k) (bmE F k) = true := by
  rcases k with _ | _ | k <;> rfl
section
variable {K : PySem.W.Frag} {F : Addr} {e : EC}
theorem ECok.xc (h : ECok K F e) : XC K e.a (baseE e.k) (newE e.k) (initE e.k) (bmT e.k) := by
  obtain ⟨nm, q, N, bs, sn, sub, ab, col, dd, k0, k1, k2, k3, k5, l⟩ := id h.at_
  exact ⟨⟨nm, q, N, bs, _, sn, sub, ab, col, dd, k0, k1, k2, k3, k5, l, bmE_tail F e.k⟩, h.at_.ov (bmE_tail F e.k), h.at_.dct, h.sa, by rw [h.at_.sub, List.contains_cons, bmE_base, Bool.or_true], h.at_.ty, h.kC, xbE e.k, xsE e.k⟩
theorem ECok.xr (h : ECok K F e) : XR K e.a e.f where
  hg := h.ga
  hk := h.gg
  hs := by rw [h.at_.sub, List.contains_cons, bmE_base, Bool.or_true]
  hd := h.at_.dct
  ha := h.ca
  hn := h.hn
  ht := h.ht
  hm := by
    have := h.at_.sub (.type "object")
    rw [List.contains_cons, bmE_obj, Bool.or_true] at this
    exact this
  no := h.no
theorem ECok.tk (h : ECok K F e) : PySem.W.takerIn K e.a e.f = some none := by
  unfold PySem.W.takerIn
  rw [h.no]
  rfl
end
/-! ### all of them -/
def clF (L : List EC) : Str → Option (Addr × Str) := fun c => (L.find? fun e => e.n == c).map fun e => (e.a, e.f)
theorem clF_mem {L : List EC} {c f : Str} {a : Addr} (h : clF L c = some (a, f)) : ∃ e ∈ L, e.n = c ∧ e.a = a ∧ e.f = f := by
  unfold clF at h
  obtain ⟨e, h1, h2⟩ := Option.map_eq_some_iff.mp h
  cases h2
  exact ⟨e, List.mem_of_find?_eq_some h1, by have := List.find?_some h1; exact beq_iff_eq.mp this, rfl, rfl⟩
/-- a name's entry -/
def kndOf (L : List EC) (c : Str) : Nat := ((L.find? fun e => e.n == c).map (·.k)).getD 9
def fldOf (L : List EC) (c : Str) : Option Str := (L.find? fun e => e.n == c).map (·.f)
structure ECs (K : PySem.W.Frag) (F : Addr) (L : List EC) : Prop where
  ok : ∀ e ∈ L, ECok K F e
  fl : ClsAt K F (bmT 0) "ValueError.__new__"
  dis : ((F :: L.map (·.a)).Nodup)
section
variable {K : PySem.W.Frag} {F : Addr} {L : List EC}
theorem ECs.get (h : ECs K F L) {c f : Str} {a : Addr} (e : clF L c = some (a, f)) : ∃ x ∈ L, x.n = c ∧ x.a = a ∧ x.f = f ∧ ECok K F x := by
  obtain ⟨x, h1, h2⟩ := clF_mem e
  exact ⟨x, h1, h2.1, h2.2.1, h2.2.2, h.ok x h1⟩
theorem clF_knd {c f : Str} {a : Addr} (e : clF L c = some (a, f)) : ∃ x ∈ L, x.n = c ∧ x.a = a ∧ x.f = f ∧ kndOf L c = x.k ∧ fldOf L c = some f := by
  unfold clF at e
  obtain ⟨x, h1, h2⟩ := Option.map_eq_some_iff.mp e
  cases h2
  refine ⟨x, List.mem_of_find?_eq_some h1, by have := List.find?_some h1; exact beq_iff_eq.mp this, rfl, rfl, ?_, ?_⟩
  · unfold kndOf
    rw [h1]
    rfl
  · unfold fldOf
    rw [h1]
    rfl
theorem ECs.fldx (h : ECs K F L) : ∀ c cl f, clF L c = some (cl, f) → fldOf L c = some f ∧ XR K cl f := fun c cl f e => by
  obtain ⟨x, h1, h2, rfl, rfl, _, h3⟩ := clF_knd e
  exact ⟨h3, (h.ok x h1).xr⟩
theorem nodup_inj {α β : Type} {g : α → β} : ∀ {l : List α} {x y : α}, (l.map g).Nodup → x ∈ l → y ∈ l → g x = g y → x = y
  | [], _, _, _, h, _, _ => by cases h
  | z :: l, x, y, h, hx, hy, e => by
    rw [List.map_cons, List.nodup_cons] at h
    rcases List.mem_cons.mp hx with ex | hx2
    · rcases List.mem_cons.mp hy with ey | hy2
      · rw [ex, ey]
      · exact absurd (by rw [← ex, e]; exact List.mem_map_of_mem hy2) h.1
    · rcases List.mem_cons.mp hy with ey | hy2
      · exact absurd (by rw [← ey, ← e]; exact List.mem_map_of_mem hx2) h.1
      · exact nodup_inj h.2 hx2 hy2 e
/-- class T (told by its entry): a class is under it iff it is T itself -/
theorem ECs.con (h : ECs K F L) (hn : (L.map (·.n)).Nodup) {T : EC} (hT : T ∈ L) {c f : Str} {cl : Addr} (e : clF L c = some (cl, f)) : ∃ x, ECok K F x ∧ x.a = cl ∧ x.f = f ∧ (Value.ref cl :: bmE F x.k).contains (.ref T.a) = (c == T.n) := by
  obtain ⟨x, h1, h2, h3, h4, ok⟩ := h.get e
  have dd := List.nodup_cons.mp h.dis
  have nF : T.a ≠ F := fun z => dd.1 (by rw [← z]; exact List.mem_map_of_mem hT)
  refine ⟨x, ok, h3, h4, ?_⟩
  have tail : (bmE F x.k).contains (.ref T.a) = false := by
    rcases x.k with _ | _ | k
    · show ((Value.ref T.a == Value.ref F) || (bmT 0).contains (.ref T.a)) = false
      rw [show (Value.ref T.a == Value.ref F) = false from by rw [beq_eq_false_iff_ne]; exact fun z => nF (Value.ref.inj z)]
      rfl
    · rfl
    · rfl
  rw [List.contains_cons, tail, Bool.or_false]
  by_cases q : c = T.n
  · have : x = T := nodup_inj hn h1 hT (by rw [h2, q])
    rw [← h3, this, q, beq_self_eq_true, beq_self_eq_true]
  · rw [show (c == T.n) = false from beq_eq_false_iff_ne.mpr q, beq_eq_false_iff_ne]
    intro z
    have z := Value.ref.inj z
    have : x = T := nodup_inj dd.2 h1 hT (by rw [h3, ← z])
    exact q (by rw [← h2, this])
theorem ECs.kit (h : ECs K F L) (hn : (L.map (·.n)).Nodup) {T : EC} (hT : T ∈ L) : ∀ c cl f, clF L c = some (cl, f) → XR K cl f ∧ PySem.W.kitOne K (.ref cl) (.ref T.a) = some (c == T.n) := fun c cl f e => by
  obtain ⟨x, ok, rfl, rfl, q⟩ := h.con hn hT e
  exact ⟨ok.xr, by rw [ok.at_.kit (h.ok T hT).at_, q]⟩
theorem ECs.exm (h : ECs K F L) (hn : (L.map (·.n)).Nodup) {T : EC} (hT : T ∈ L) : ∀ c cl f, clF L c = some (cl, f) → PySem.W.exmOne K (.ref cl) (.ref T.a) = some (c == T.n) := fun c cl f e => by
  obtain ⟨x, ok, rfl, rfl, q⟩ := h.con hn hT e
  rw [ok.at_.exm (h.ok T hT).at_ (bmE_base F T.k), q]
theorem flat_con (h : ECs K F L) {x : EC} (hx : x ∈ L) : (Value.ref x.a :: bmE F x.k).contains (.ref F) = (x.k == 0) := by
  have dd := List.nodup_cons.mp h.dis
  have nF : x.a ≠ F := fun z => dd.1 (by rw [← z]; exact List.mem_map_of_mem hx)
  rw [List.contains_cons, show (Value.ref F == Value.ref x.a) = false from by rw [beq_eq_false_iff_ne]; exact fun z => nF (Value.ref.inj z).symm, Bool.false_or]
  rcases x.k with _ | _ | k
  · show ((Value.ref F == Value.ref F) || (bmT 0).contains (.ref F)) = true
    rw [beq_self_eq_true, Bool.true_or]
  · rfl
  · rfl
theorem ECs.kitF (h : ECs K F L) : ∀ c cl f, clF L c = some (cl, f) → XR K cl f ∧ PySem.W.kitOne K (.ref cl) (.ref F) = some (kndOf L c == 0) := fun c cl f e => by
  obtain ⟨x, h1, h2, rfl, rfl, h3, _⟩ := clF_knd e
  exact ⟨(h.ok x h1).xr, by rw [(h.ok x h1).at_.kit h.fl, flat_con h h1, h3]⟩
theorem ECs.exmF (h : ECs K F L) : ∀ c cl f, clF L c = some (cl, f) → PySem.W.exmOne K (.ref cl) (.ref F) = some (kndOf L c == 0) := fun c cl f e => by
  obtain ⟨x, h1, h2, rfl, rfl, h3, _⟩ := clF_knd e
  rw [(h.ok x h1).at_.exm h.fl rfl, flat_con h h1, h3]
/-- a built-in class over them -/
theorem ECs.kitT (h : ECs K F L) {T : String} {b0 b1 b2 : Bool} (hT : PySem.W.kitMeta T = true) (h0 : (bmT 0).contains (.type T) = b0) (h1 : (bmT 1).contains (.type T) = b1) (h2 : (bmT 2).contains (.type T) = b2) :
    ∀ c cl f, clF L c = some (cl, f) → XR K cl f ∧ PySem.W.kitOne K (.ref cl) (.type T) = some (match kndOf L c with | 0 => b0 | 1 => b1 | _ => b2) := fun c cl f e => by
  obtain ⟨x, m1, m2, rfl, rfl, m3, _⟩ := clF_knd e
  refine ⟨(h.ok x m1).xr, ?_⟩
  rw [(h.ok x m1).at_.kitT hT, m3, List.contains_cons, show (Value.type T == Value.ref x.a) = false from rfl, Bool.false_or]
  rcases x.k with _ | _ | k
  · show some ((Value.type T == Value.ref F) || (bmT 0).contains (.type T)) = some b0
    rw [h0]
    rfl
  · show some ((bmT 1).contains (.type T)) = some b1
    rw [h1]
  · show some ((bmT 2).contains (.type T)) = some b2
    rw [h2]
end

/-! ### the law's end -/
theorem law_sp {cls : Cls} {F : FF} {H : Hp} {a : Addr} {ns : List Int} (hF : ∃ ms, F [.sc ns] = .ok (.v (.bool true)) ms) (O : Only H) (S : SqL cls.K H a (ns.map V.int)) : spF cls 1 F [.ref a] H (fun v _ => v = .bl true) fun _ _ _ => False := by
  obtain ⟨ms, e⟩ := hF
  have nt : ∀ b ps, H b ≠ some (.tbl ps) := fun b ps z => by
    rcases O b with q | ⟨o, xs, q⟩ <;> rw [q] at z <;> cases z
  refine ⟨rfl, H, fun _ => none, [], fun _ => none, fun _ => none, [.sc ns], rfl, ⟨Sub.rfl', fun a u e => (by cases e), Sub.rfl', fun a u e => .inl e, fun a n e => (by cases e), fun a n e => (by cases e), rfl, fun i hi => (by cases hi), fun i m e => ?_, fun j v m e => (by cases e), fun a ps e => (by cases e), fun p hp => (by cases hp), fun a n e => (by cases e), fun a u e => (by cases e), nt⟩, ?_⟩
  · rcases i with _ | i
    · cases e
      exact ⟨.ref a, rfl, a, rfl, S⟩
    · cases e
  · rw [e]
    intro v Z H o w
    have r : RD cls Z v (.bool true) := w.tp 0 v _ rfl
    cases r
    rfl
end FW
end

section
set_option Elab.async false
set_option linter.all false
set_option maxRecDepth 100000
set_option autoImplicit false
set_option maxHeartbeats 2000000
/-! FW18: an own exception class called with any arguments: nothing, positional ones, keywords. -/
namespace FW
open PySem PySem.Spec L2 PySem.HandSPX

section
variable {M : Model} {A : Around} {E : Value → Shared → Prop} {h : Heap} {g : Array GenState} {d : Drawn} {t : Nat} {os : OsState}
variable {nm q : Str} {C N : Addr} {bs bm bmB : List Value} {hdct : Bool} {sn : List Str} {sub : List Value} {ab : Bool} {col : Option Bool} {dd : Option Addr} {k0 k1 k2 k3 k5 : Option Value} {B newId initId : String}
theorem xk_check (F : ExcBaseFacts B newId initId bmB) (hT : ∀ X : String, bm.contains (.type X) = bmB.contains (.type X)) {rest : List Value} {kw : List (Str × Value)} {Q : Unit → Shared → Prop}
    (hC : h.get? C = some (excClassObj nm q C N bs bm hdct sn sub ab col dd k0 k1 k2 k3 k5 newId)) (hq : Q () ⟨h, g, d, t, os⟩) : wpAny M A (checkBuiltinCall newId ⟨.ref C :: rest, kw⟩) Q E ⟨h, g, d, t, os⟩ := by
  have under : (Value.ref C :: bm).contains (.type B) = true := by
    rw [List.contains_cons, hT, F.hasB, Bool.or_true]
  have ns := F.noStar
  simp only [checkBuiltinCall, F.newKind, F.newSplit, F.newRow]
  repeat (first
    | refine wpAny_loadPart_at hC ?_
    | (refine wpAny_isSubtype_exc hC ?_
       rw [under])
    | refine wpAny_staticBase_exc hC ?_
    | refine wpAny_madeBy_exc hC ?_
    | simp only [bne_self_eq_false, Bool.false_eq_true, if_false]
    | wp_step)
  exact hq
end
section
variable {prog : Program} {w : World} {A : Around} {E : Value → Shared → Prop} {R : Result → Shared → Prop} {h : Heap} {g : Array GenState} {d : Drawn} {t : Nat} {os : OsState}
variable {nm q : Str} {C N : Addr} {bs bm bmB : List Value} {hdct : Bool} {sn : List Str} {sub : List Value} {ab : Bool} {col : Option Bool} {dd : Option Addr} {k0 k1 k2 k3 k5 : Option Value} {B newId initId : String}
theorem xk_new (F : ExcBaseFacts B newId initId bmB) (hT : ∀ X : String, bm.contains (.type X) = bmB.contains (.type X)) {rest : List Value} {kw : List (Str × Value)}
    (hC : h.get? C = some (excClassObj nm q C N bs bm hdct sn sub ab col dd k0 k1 k2 k3 k5 newId)) (hr : rest.length ≤ sizeLine)
    (hq : R (.ok (.ret (.ref (h.objs.size + 1)))) ⟨(h.push (PySem.W.kdv_tup rest)).push (excO C h.objs.size), g, d, t, os⟩) :
    codeAny (model prog w) A (.builtin newId ⟨.ref C :: rest, kw⟩) R ⟨h, g, d, t, os⟩ := by
  have ends := F.ends
  have inB : (Value.ref C :: bm).contains (.type B) = true := by
    rw [List.contains_cons, hT, F.hasB, Bool.or_true]
  have inA : (Value.ref C :: bm).contains (.type "AttributeError") = false := by
    rw [List.contains_cons, hT, F.noAttr]
    rfl
  have inN : (Value.ref C :: bm).contains (.type "NameError") = false := by
    rw [List.contains_cons, hT, F.noName]
    rfl
  refine codeAny_builtinAt F.entry ?_
  unfold Builtin.«BaseException.__new__»
  refine wpAt_bind ?_
  show wpAt _ _ _ (stack >>= _) _ _ _
  refine wpAt_bind (wpAt_stack fun p below => wpAt_of_wpAny ?_)
  wp_walk
  refine wpAt_of_wpAny ?_
  rw [F.owner]
  repeat (first
    | with_reducible refine wpAny_madeHere_exc F.canon hC ?_
    | with_reducible refine wpAny_loadPart_at hC ?_
    | (with_reducible refine wpAny_isSubtype_exc hC ?_
       first
         | rw [inB]
         | rw [inA]
         | rw [inN])
    | wp_step)
  show R _ _
  rw [Heap.size_push]
  exact hq
theorem xk_type (F : ExcBaseFacts B newId initId bmB) (hT : ∀ X : String, bm.contains (.type X) = bmB.contains (.type X)) {rest : List Value} {kw : List (Str × Value)} {fI : Addr} {Q : Fin → Shared → Prop}
    (hC : h.get? C = some (excClassObj nm q C N bs bm hdct sn sub ab col dd k0 k1 k2 k3 k5 newId)) (hi : PySem.W.Looks (model prog w) h (typeLookup (.ref C) "__init__") (some (.ref fI))) (hb : ∀ self, PySem.W.Looks (model prog w) h (bindSpecial (.ref fI) self) (.ref fI, [self])) (hr : rest.length ≤ sizeLine)
    (hq : codeAny (model prog w) A (.call (.ref fI) ⟨.ref (h.objs.size + 1) :: rest, kw⟩) (fun r s' => match r with
        | .ok (.ret v) => v = .none ∧ Q (.done (.ret (.ref (h.objs.size + 1)))) s'
        | .ok _ => False
        | .error e => E e s') ⟨(h.push (PySem.W.kdv_tup rest)).push (excO C h.objs.size), g, d, t, os⟩) :
    wpAny (model prog w) A (Builtin.«type.__call__» ⟨.ref C :: rest, kw⟩) Q E ⟨h, g, d, t, os⟩ := by
  repeat (first
    | with_reducible refine wpAny_loadPart_at hC ?_
    | with_reducible refine wpAny_madeBy_exc hC ?_
    | wp_step)
  refine codeAny_call_builtin_code (Code.quiet_builtin _ F.quiet) (xk_check F hT hC ?_)
  refine xk_new F hT hC hr ?_
  show wpAny _ _ _ _ _ _
  have kp : ∀ b o, h.get? b = some o → ((h.push (PySem.W.kdv_tup rest)).push (excO C h.objs.size)).get? b = some o := fun b o e => Heap.get?_push_of_some _ (Heap.get?_push_of_some _ e)
  have cC := kp _ _ hC
  have cE : ((h.push (PySem.W.kdv_tup rest)).push (excO C h.objs.size)).get? (h.objs.size + 1) = some (excO C h.objs.size) := by heap_get
  have self : (Value.ref C :: bm).contains (.ref C) = true := by simp
  have i1 := hi.keeps kp
  have b1 := (hb (.ref (h.objs.size + 1))).keeps kp
  unfold isInstance
  repeat (first
    | with_reducible refine wpAny_loadPart_at cE ?_
    | (with_reducible refine wpAny_isSubtype_exc cC ?_
       rw [self])
    | wp_step)
  show wpAny _ _ (typeLookup (.ref C) _) _ _ _
  refine i1.at ?_
  refine wpAny_holding (wpAny_bind (b1.at ?_))
  refine wpAny_bind (wpAny_call (codeAny_mono hq fun r s' z => ?_))
  rcases r with e | (v | _ | _ | _)
  · exact z
  · exact z.elim
  · exact z.elim
  · exact z.elim
  · obtain ⟨rfl, z⟩ := z
    first
      | exact wpAny_pure (wpAny_pure z)
      | (wp_walk
         exact z)
theorem xk_check_tc {M : Model} {A : Around} {E : Value → Shared → Prop} {rest : List Value} {kw : List (Str × Value)} {Q : Unit → Shared → Prop} (hC : h.get? C = some (excClassObj nm q C N bs bm hdct sn sub ab col dd k0 k1 k2 k3 k5 newId))
    (hq : Q () ⟨h, g, d, t, os⟩) : wpAny M A (checkBuiltinCall "type.__call__" ⟨.ref C :: rest, kw⟩) Q E ⟨h, g, d, t, os⟩ := by
  have f3 := tc_sub
  have ty : (⟨h, g, d, t, os⟩ : Shared).TypeIs (.ref C) "type" := ⟨_, hC, rfl⟩
  simp only [checkBuiltinCall, tc_kind, tc_split]
  repeat (any_goals (first
    | assumption
    | with_reducible refine wpAny_loadPart_at hC ?_
    | with_reducible refine wpAny_onRaise ?_
    | with_reducible refine wpAny_map ?_
    | wp_step))
theorem xk_call (F : ExcBaseFacts B newId initId bmB) (hT : ∀ X : String, bm.contains (.type X) = bmB.contains (.type X)) {rest : List Value} {kw : List (Str × Value)} {fI : Addr}
    (hC : h.get? C = some (excClassObj nm q C N bs bm hdct sn sub ab col dd k0 k1 k2 k3 k5 newId)) (hi : PySem.W.Looks (model prog w) h (typeLookup (.ref C) "__init__") (some (.ref fI))) (hb : ∀ self, PySem.W.Looks (model prog w) h (bindSpecial (.ref fI) self) (.ref fI, [self])) (hr : rest.length ≤ sizeLine)
    (hq : codeAny (model prog w) (A.under (.builtin "type.__call__" ⟨.ref C :: rest, kw⟩)) (.call (.ref fI) ⟨.ref (h.objs.size + 1) :: rest, kw⟩) (PySem.W.InitBack (h.objs.size + 1) R) ⟨(h.push (PySem.W.kdv_tup rest)).push (excO C h.objs.size), g, d, t, os⟩) :
    codeAny (model prog w) A (.call (.ref C) ⟨rest, kw⟩) R ⟨h, g, d, t, os⟩ := by
  have f1 := tc_lookup
  have f2 := tc_bind (.ref C)
  have ty : (⟨h, g, d, t, os⟩ : Shared).TypeIs (.ref C) "type" := ⟨_, hC, rfl⟩
  refine codeAny_of_tree ?_
  show wpAny _ _ (callAny (.ref C) _) _ _ _
  repeat (any_goals (first
    | assumption
    | with_reducible refine wpAny_loadPart_at hC ?_
    | wp_step))
  refine ⟨rfl, ?_⟩
  refine codeAny_call_builtin_at (Code.quiet_builtin _ (by decide +kernel)) entry_typeCall (xk_check_tc hC (xk_type F hT hC hi hb hr ?_))
  refine codeAny_mono hq fun r s' z => ?_
  rcases r with e | (v | _ | _ | _) <;> exact z
end
open PyProof.Rows
section
variable {X : Cx} {pins : List (Addr × Obj)} {σ : L2.St} {H : Hp} {s : Shared} {C : Addr} {f v : Str} {y : V} {u : Value} {Q : Value → Shared → Prop} {B newId initId : String} {bmB : List Value} {fI : Addr} {fd : FuncData} {k : Nat} {rest : List Value} {kw : List (Str × Value)}
theorem xc_makeA (T : XC X.K C B newId initId bmB) (iC : PySem.W.findIn X.K (.ref C) "__init__" = some (some (.ref fI))) (tI : PySem.W.typeIn X.K (.ref fI) = some (.type "function")) (F1 : FnOk X.prog X.w X.K X.mg X.base C8.CX0 k fI fd ["self", v] (spI C f)) (hr : Room (k + 1) X.A)
    (hb : ∀ (s : Shared) (a : Addr), X.K.In s.heap → BindsTo s fd ⟨.ref a :: rest, kw⟩ ((["self", v] : List Str).zip [.ref a, u])) (hl : rest.length ≤ sizeLine) (I : Inv X pins σ H s) (ry : RelV y u)
    (h : ∀ (a dx : Addr) (G : Heap) (s' : Shared) (t0 : Addr), (∀ b o, G.get? b = some o → s'.heap.get? b = some o) → G.get? a = none → s'.heap.get? a = some ({ cls := .ref C, dict := some dx, data := .fields #[.ref t0, .none, .none, .none, .bool false, .none] } : Obj) →
      H a = none → H dx = none → dx ≠ a → AllBare s'.gens → Inv X pins σ (upd H dx (.xd [(f, y)])) { s' with heap := G } → Q (.ref a) s') :
    wpAny (model X.prog X.w) X.A (call (.ref C) rest kw) Q X.xe s := by
  obtain ⟨nm, q, N, bs, bm, sn, sub, ab, col, dd, k0, k1, k2, k3, k5, hC, hbm⟩ := T.obj
  obtain ⟨hp, g, dr, tk, os⟩ := s
  have hsz : hp.objs.size ≤ hp.objs.size + 1 := Nat.le_succ _
  have hn : H (hp.objs.size + 1) = none := I.hok.fresh hsz
  have kk : ∀ b o, hp.get? b = some o → ((hp.push (PySem.W.kdv_tup rest)).push (excO C hp.objs.size)).get? b = some o := fun b o e => Heap.get?_push_of_some _ (Heap.get?_push_of_some _ e)
  have hget : ((hp.push (PySem.W.kdv_tup rest)).push (excO C hp.objs.size)).get? (hp.objs.size + 1) = some (excO C hp.objs.size) := by heap_get
  have I2 : Inv X pins σ (upd H (hp.objs.size + 1) (exo (hp.objs.size + 1) C none)) ⟨(hp.push (PySem.W.kdv_tup rest)).push (excO C hp.objs.size), g, dr, tk, os⟩ :=
    I.laid (t' := tk) (a := hp.objs.size + 1) (o := exo (hp.objs.size + 1) C none) (h' := (hp.push (PySem.W.kdv_tup rest)).push (excO C hp.objs.size)) kk hsz (exo_ok hget)
  have hq : spI C f [V.ref (hp.objs.size + 1), y] (upd H (hp.objs.size + 1) (exo (hp.objs.size + 1) C none)) (fun r H2 => r = .non ∧ ∃ dx, H dx = none ∧ dx ≠ hp.objs.size + 1 ∧ H2 = upd (upd (upd H (hp.objs.size + 1) (exo (hp.objs.size + 1) C none)) dx (exd dx [(f, y)])) (hp.objs.size + 1) (exo (hp.objs.size + 1) C (some dx))) (fun _ _ _ => False) :=
    ⟨_, _, rfl, upd_same, fun dx n ne => ⟨rfl, dx, by rw [upd_ne ne] at n; exact n, ne, rfl⟩⟩
  refine wpAny_call (xk_call T.xb (fun Y => PySem.W.excTail_contains Y bm hbm) (I.kIn _ _ hC) (PySem.W.looks_findIn I.kIn iC) (fun self => PySem.W.bind_fn I.kIn self tI) hl
    (codeAny_mono (F1.run _ X.stack _ _ ⟨.ref (hp.objs.size + 1) :: rest, kw⟩ [.ref (hp.objs.size + 1), u] _ _ (fun _ _ _ => False) (hr.make C rest kw) (I2.env0.make C rest kw) (hb _ _ I2.kIn) (.cons (show RelV (.ref (hp.objs.size + 1)) (.ref (hp.objs.size + 1)) from rfl) (.cons ry .nil)) hq) fun r s' hq' => ?_))
  cases r with
  | error er => exact hq'.elim
  | ok fl =>
    cases fl with
    | ret u =>
      obtain ⟨v', H2, os2, bare2, un2, hok2, rv, ev, dx, n, ne, eH⟩ := hq'
      subst ev
      obtain ⟨h2, g2, d2, t2, os'⟩ := s'
      have ea : H2 (hp.objs.size + 1) = some (exo (hp.objs.size + 1) C (some dx)) := by rw [eH, upd_same]
      have ed : H2 dx = some (exd dx [(f, y)]) := by rw [eH, upd_ne ne, upd_same]
      obtain ⟨t0, G, J, kG, ge, hoe, na⟩ := mk_end0 (d2 := d2) (t2 := t2) I hsz kk un2 hok2 os2 bare2 ea ed n
      have eF : upd (L2.del H2 (hp.objs.size + 1)) dx (.xd [(f, y)]) = upd H dx (.xd [(f, y)]) := funext fun b => by
        by_cases hb : b = dx
        · rw [hb, upd_same, upd_same]
        · rw [upd_ne hb, upd_ne hb]
          by_cases hb2 : b = hp.objs.size + 1
          · rw [hb2, del_same, hn]
          · rw [del_ne hb2, eH, upd_ne hb2, upd_ne hb, upd_ne hb2]
      rw [eF] at J
      exact ⟨rv, h (hp.objs.size + 1) dx G _ t0 kG ge hoe hn n ne bare2 J⟩
    | next => exact False.elim hq'
    | brk => exact False.elim hq'
    | cont => exact False.elim hq'
end
/-- the class's calls by keyword, and without arguments (dflt: its field's default is None) -/
structure XK (P : Program) (w : World) (K : PySem.W.Frag) (mg : Str → Option Value) (base : Heap) (x f v : Str) (dflt : Bool) (C : Addr) : Prop where
  ex : ∃ (B newId initId : String) (bmB : List Value) (fI : Addr) (fd : FuncData), XC K C B newId initId bmB ∧ PySem.W.findIn K (.ref C) "__init__" = some (some (.ref fI)) ∧ PySem.W.typeIn K (.ref fI) = some (.type "function") ∧
    FnOk P w K mg base C8.CX0 2 fI fd ["self", v] (spI C f) ∧ (∀ (s : Shared) (a : Addr) (u : Value), K.In s.heap → BindsTo s fd ⟨[.ref a], [(v, u)]⟩ ((["self", v] : List Str).zip [.ref a, u])) ∧
    (dflt = true → ∀ (s : Shared) (a : Addr), K.In s.heap → BindsTo s fd ⟨[.ref a], []⟩ ((["self", v] : List Str).zip [.ref a, .none]))
  g : mg x = some (.ref C)
def jX0 (c : Str) : JF := fun ρ => .ok (.tmp (.v (excD c .none))) ρ
section
variable {X : Cx} {C : Base} {W : WX} {x f v : Str} {cl : Addr} {dflt : Bool} {e : Expr} {g : JF} {p pos kpos : Pos}
theorem give_x {Z H : Hp} {Q : VK} {a dx : Addr} {y : V} {d : PyData} {f : Str} {cls : Cls} (hcl : cls.f x = some (cl, f)) (hs : Sub Z H) (r : RD cls Z y d) (na : H a = none) (nd : H dx = none) (ne : dx ≠ a) (q : Give cls Z H (.v (excD x d)) Q) : Q (.ref a) (upd (upd H dx (.xd [(f, y)])) a (exV a cl dx)) := by
  have na2 : upd H dx (.xd [(f, y)]) a = none := by
    rw [upd_ne (Ne.symm ne)]
    exact na
  have h1 : Sub Z (upd Z dx (.xd [(f, y)])) := Sub.new (hs.none nd)
  have hs2 : Sub (upd Z dx (.xd [(f, y)])) (upd H dx (.xd [(f, y)])) := hs.upd
  have h2 : Sub (upd Z dx (.xd [(f, y)])) (upd (upd Z dx (.xd [(f, y)])) a (exV a cl dx)) := Sub.new (hs2.none na2)
  refine q (.ref a) _ _ (h1.trans h2) ((Sub.new nd).trans (Sub.new na2)) hs2.upd (fun b u e => ?_) (RD.exc hcl upd_same (by rw [upd_ne ne, upd_same]) ((h1.trans h2).dp _ _ r))
  by_cases hb : b = a
  · subst hb
    rw [upd_same] at e
    cases e
    exact .inr ⟨na, fun ps z => by cases z⟩
  · rw [upd_ne hb] at e
    by_cases hd : b = dx
    · subst hd
      rw [upd_same] at e
      cases e
      exact .inr ⟨nd, fun ps z => by cases z⟩
    · rw [upd_ne hd] at e
      exact .inl e
/-- C() -/
theorem je_x0 (T : XK X.prog X.w X.K X.mg X.base x f v true cl) (hcl : C.cls.f x = some (cl, f)) (hr : Room 3 X.A) (hg : Gl X x) (hdb : (x == ("__debug__" : Str)) = false := by decide) : JE X C W (.Call (.Name x p) [] [] pos) (jX0 x) := by
  refine ⟨fun pins s σ H Q I h => ?_⟩
  obtain ⟨B, newId, initId, bmB, fI, fd, T1, iC, tI, F1, _, b0⟩ := T.ex
  obtain ⟨Zb, Z, o, ρ, Tm, w, k⟩ := h
  refine wpAny_Call_Name_kw (ld_glob I hg T.g ?_ hdb)
  refine PySem.W.callWith_K0 I.kIn T1.kC ?_
  refine xc_makeA (rest := []) (kw := []) (y := .non) (u := .none) T1 iC tI F1 hr (fun s a hK => b0 rfl s a hK) (Nat.zero_le _) I rfl fun a dx G s' t0 kG ga ha' na nd ne ag J => ?_
  obtain ⟨h2, g2, d2, t2, os2⟩ := s'
  have na' : upd H dx (.xd [(f, .non)]) a = none := by rw [upd_ne (Ne.symm ne)]; exact na
  refine ⟨.ref a, _, J.laidN (o := exV a cl dx) (t' := t2) kG ga na' ⟨⟨_, _, ha', ⟨rfl, rfl⟩, rfl⟩, ⟨_, ha'⟩, fun h1 h2 ⟨oe, vs, z⟩ k => ⟨oe, vs, k _ z.1, z.2⟩⟩, rfl, ?_⟩
  exact give_x (cls := C.cls) hcl w.zh .non na nd ne (w.give fun v Z' H' o' w' => k Z' H' o' v _ w' rfl)
/-- C(v = e) -/
theorem je_xk (T : XK X.prog X.w X.K X.mg X.base x f v dflt cl) (hcl : C.cls.f x = some (cl, f)) (hr : Room 3 X.A) (hg : Gl X x) (he : JE X C W e g) (hdb : (x == ("__debug__" : Str)) = false := by decide)
    (hall : (backToKw pos (keywordEach [⟨some v, e, kpos⟩] X.env)).all (·.1.isSome) = true := by rfl) (hks : (backToKw pos (keywordEach [⟨some v, e, kpos⟩] X.env)).filterMap (·.1) = [v] := by rfl)
    (hpl : ((backTo pos (starEach [] X.env)).any (·.1) || (backToKw pos (keywordEach [⟨some v, e, kpos⟩] X.env)).any (·.1.isNone)) = false := by rfl) :
    JE X C W (.Call (.Name x p) [] [⟨some v, e, kpos⟩] pos) (jX x (aCons (jFrz g) aNil)) := by
  refine ⟨fun pins s σ H Q I h => ?_⟩
  obtain ⟨B, newId, initId, bmB, fI, fd, T1, iC, tI, F1, bK, _⟩ := T.ex
  refine wpAny_Call_Name_kw (ld_glob I hg T.g ?_ hdb)
  refine PySem.W.callWith_KW0 (h₀ := X.base) I.ok.mod.kin T1.kC hall ?_ hpl
  have hp : PK X [⟨some v, e, kpos⟩] (tCons (tJ C W (jFrz g)) tNil) := pk_cons (je_frz he) pk_nil
  obtain ⟨Zb, Z, o, ρ, Tm, w, k⟩ := h
  refine thn (hp.run pos pins s σ H (fun vs H1 => ∃ y d, vs = [y] ∧ ∃ Z1 o1 ρ1, Own (C.at Zb) Z1 H1 o1 σ ρ1 Tm ∧ RD C.cls Z1 y d ∧ kJ (C.at Zb) W σ Tm (.ok (.tmp (.v (excD x d))) ρ1) Q) I ?_) fun ws s2 ⟨vs, H2, I2, rz, y, d, ev, Z1, o1, ρ1, w1, r, k1⟩ => ⟨I2.kIn, ?_⟩
  · refine ⟨Zb, Z, o, ρ, Tm, w, ?_⟩
    unfold jX aCons at k
    cases hf : jFrz g ρ with
    | stuck => rw [hf] at k; exact k
    | exc c d ρ1 => rw [hf] at k; exact k
    | ok s1 ρ1 =>
      rw [hf] at k
      simp only [Res.bind_ok, aNil] at k
      intro Z1 H1 o1 y T1 w1 a1
      refine ⟨y, ?_⟩
      cases h1 : oneV ρ1 [s1] with
      | none => rw [h1] at k; exact k.elim
      | some d =>
        rw [h1] at k
        obtain ⟨y', ey, r⟩ := one_rd w1 (show Ats σ Tm T1 [y] [s1] from ⟨y, [], T1, rfl, a1, rfl, rfl⟩) h1
        cases ey
        obtain ⟨R, eR⟩ := a1.pre
        exact ⟨d, rfl, Z1, o1, ρ1, w1.cut eR, r, k⟩
  · subst ev
    cases rz with
    | @cons _ u _ ur ru rr =>
      cases rr
      rw [hks]
      refine xc_makeA (rest := []) (kw := [(v, u)]) (y := y) (u := u) T1 iC tI F1 hr (fun s a hK => bK s a u hK) (Nat.zero_le _) I2 ru fun a dx G s' t0 kG ga ha' na nd ne ag J => ?_
      obtain ⟨h2, g2, d2, t2, os2⟩ := s'
      have na' : upd H2 dx (.xd [(f, y)]) a = none := by rw [upd_ne (Ne.symm ne)]; exact na
      refine ⟨.ref a, _, J.laidN (o := exV a cl dx) (t' := t2) kG ga na' ⟨⟨_, _, ha', ⟨rfl, rfl⟩, rfl⟩, ⟨_, ha'⟩, fun h1 h2 ⟨oe, vs, z⟩ k => ⟨oe, vs, k _ z.1, z.2⟩⟩, rfl, ?_⟩
      exact give_x (cls := C.cls) hcl w1.zh r na nd ne (w1.give fun v Z' H' o' w' => k1 Z' H' o' v _ w' rfl)
end
end FW
end

section
set_option Elab.async false
set_option linter.all false
set_option maxRecDepth 100000
set_option autoImplicit false
/-! FW19: short names for printed proofs; a class's __init__ from the text. -/
namespace FW
open PySem PySem.Spec PyProof.Rows L2

section
variable {X : Cx} {C : Base} {W : WX}
theorem jv (i : Nat) {x : Str} {pos : Pos} (hN : X.N[i]? = some x := by rfl) (hv : Vis X.env.scope x := by first | exact Or.inl rfl | exact Or.inr (Or.inr rfl) | exact Or.inr (Or.inl rfl)) (hd : (x == ("__debug__" : Str)) = false := by decide) (hcd : (x == ("__classdict__" : Str)) = false := by decide) : JE X C W (.Name x pos) (jVar i) :=
  je_var hN hv hd hcd
theorem jn {i : Nat} {x : Str} {pos : Pos} (hN : X.N.Nodup) (hi : X.N[i]? = some x := by rfl) (hx : Loc X.env.scope x := by first | exact Or.inl rfl | exact Or.inr rfl) (hb : Nat.blt i C.n = true := by rfl) (hl : C.L.elem i = false := by rfl)
    (hf : X.fn x = true ∨ X.env.scope.names.lookup x = some .local := by first | exact .inl rfl | exact .inr rfl) : JG X C (.Name x pos) (gN i) [i] := jg_name hN hi hx hb hl hf
theorem al0 : ∀ (ρ : Env) (ss : List Src) (ρ' : Env), aNil ρ = .ok ss ρ' → ss.length = 0 := fun ρ ss ρ' h => by
  cases h
  rfl
theorem alS {f : JF} {g : AF} {n : Nat} (h : ∀ (ρ : Env) (ss : List Src) (ρ' : Env), g ρ = .ok ss ρ' → ss.length = n) : ∀ (ρ : Env) (ss : List Src) (ρ' : Env), aCons f g ρ = .ok ss ρ' → ss.length = n + 1 := fun ρ ss ρ' e => by
  unfold aCons at e
  cases hf : f ρ with
  | stuck => rw [hf] at e; cases e
  | exc c d ρ1 => rw [hf] at e; cases e
  | ok s ρ1 =>
    rw [hf] at e
    simp only [Res.bind_ok] at e
    cases hg : g ρ1 with
    | stuck => rw [hg] at e; cases e
    | exc c d ρ2 => rw [hg] at e; cases e
    | ok ss2 ρ2 =>
      rw [hg] at e
      cases e
      simp [h _ _ _ hg]
end
theorem bt_len : bootBuiltins "len" = some (.builtin "len") := PySem.boot_len
theorem bt_sum : bootBuiltins "sum" = some (.builtin "sum") := by kernel_rfl
theorem bt_all : bootBuiltins "all" = some (.builtin "all") := by kernel_rfl
theorem bt_any : bootBuiltins "any" = some (.builtin "any") := by kernel_rfl
theorem bt_min : bootBuiltins "min" = some (.builtin "min") := by kernel_rfl
theorem bt_max : bootBuiltins "max" = some (.builtin "max") := by kernel_rfl
theorem bt_abs : bootBuiltins "abs" = some (.builtin "abs") := by kernel_rfl
theorem bt_sorted : bootBuiltins "sorted" = some (.builtin "sorted") := by kernel_rfl
theorem bt_list : bootBuiltins "list" = some (.type "list") := by kernel_rfl
theorem bt_tuple : bootBuiltins "tuple" = some (.type "tuple") := by kernel_rfl
theorem bt_str : bootBuiltins "str" = some (.type "str") := by kernel_rfl
theorem bt_int : bootBuiltins "int" = some (.type "int") := by kernel_rfl
theorem bt_bool : bootBuiltins "bool" = some (.type "bool") := by kernel_rfl
theorem bt_ValueError : bootBuiltins "ValueError" = some (.type "ValueError") := by kernel_rfl
theorem bt_LookupError : bootBuiltins "LookupError" = some (.type "LookupError") := by kernel_rfl
theorem bt_OverflowError : bootBuiltins "OverflowError" = some (.type "OverflowError") := by kernel_rfl

/-! ### __init__ -/
/-- the def __init__ of a class statement -/
def initS (st : Stmt) : Stmt := (C8.clsBody st).getD 0 (.Pass ⟨0, 0, 0, 0⟩)
/-- def __init__(self, v): BASE.__init__(self, text); self.f = v -/
def InitB (scope : Scope) (b : Str) (msg f v : Str) (body : List Stmt) : Prop := ∃ (p1 p2 p3 p4 p5 p6 p7 p8 p9 p10 : Pos) (j : Nat), body = [.Expr (.Call (.Attribute (.Name b p1) "__init__" p2) [.Name "self" p3, .Constant (.str msg) j p4] [] p5) p6, .Assign [.Attribute (.Name "self" p7) f p8] (.Name v p9) p10] ∧
  ∀ env : PySem.Env, env.scope = scope → ∃ pl : Sem Bool, eval (.Call (.Attribute (.Name b p1) "__init__" p2) [.Name "self" p3, .Constant (.str msg) j p4] [] p5) env = (do
      let ov ← eval (.Name b p1) env
      standAt p2.atName
      let (f, first) ← holding [ov] (getMethod ov "__init__" pl)
      callWith p5 f first (backTo p5 (starEach [.Name "self" p3, .Constant (.str msg) j p4] env)) (backToKw p5 (keywordEach [] env)))
section
variable {P : Program} {w : World} {K : PySem.W.Frag} {mg : Str → Option Value} {base : Heap} {F : Addr} {e : EC} {qual v b msg : Str} {params : Arguments} {body : List Stmt} {scope : Scope} {dvs : List V} {fI : Addr} {fd : FuncData} {k : Nat}
/-- what BASE.__init__ is: FlatError, or the built-in base -/
def BaseOk (K : PySem.W.Frag) (mg : Str → Option Value) (F : Addr) (b : Str) (k : Nat) : Prop :=
  (k = 0 ∧ mg b = some (.ref F) ∧ PySem.W.specialIn K (.ref F) "__getattribute__" = some (some (.builtin "type.__getattribute__")) ∧ PySem.W.readsIn K F (.type "type") = true ∧ PySem.W.findCls K (.ref F) (.type "type") "__init__" = some (.val (.builtin "ValueError.__init__"))) ∨
  (mg b = none ∧ ∃ T : String, bootBuiltins b = some (.type T) ∧ b ≠ "__name__" ∧ typeOf (.type T) = pure (.type "type") ∧ Manifest.isStub T = false ∧ PySem.W.findCls K (.type T) (.type "type") "__init__" = some (.val (.builtin (initE k))))
theorem init_fn (hE : ECok K F e) (hF : FunD K "__init__" qual params body scope dvs [] fI fd) (S : FnScope ["self", v] ["self", v] scope) (hb : InitB scope b msg e.f v body) (hB : BaseOk K mg F b e.k) (hgl : scope.names.lookup b = some .globalImplicit) (hdb : (b == ("__debug__" : Str)) = false)
    (hself : Vis scope "self") (hv : Vis scope v) (hvd : (v == ("__debug__" : Str)) = false) (hvc : (v == ("__classdict__" : Str)) = false) (hsf : e.f ≠ "__init__") : FnOk P w K mg base C8.CX0 (k + 1) fI fd ["self", v] (spI e.a e.f) := by
  refine xc_fn hF S hE.xc hE.tk fun X hP hw hK hmg hN hsc => ?_
  obtain ⟨p1, p2, p3, p4, p5, p6, p7, p8, p9, p10, j, rfl, hev⟩ := hb
  obtain ⟨pl, hpl⟩ := hev X.env hsc
  have gl : Gl X b := by
    show X.env.scope.names.lookup b = some .globalImplicit
    rw [hsc]
    exact hgl
  have v0 : Vis X.env.scope "self" := by rw [hsc]; exact hself
  have v1 : Vis X.env.scope v := by rw [hsc]; exact hv
  have n0 : X.N[0]? = some ("self" : Str) := by rw [hN]; rfl
  have n1 : X.N[1]? = some v := by rw [hN]; rfl
  have args : PA X [.Name "self" p3, .Constant (.str msg) j p4] (tCons (tVar 0) (tCons (tC (.str msg)) tNil)) := pa_cons (pe_var n0 v0) (pa_cons pe_str pa_nil)
  refine ⟨_, _, tCons (tC (.str msg)) tNil, rfl, ?_, fun σ H Q h => h _, ?_⟩
  · rcases hB with ⟨h0, h1, h2, h3, h4⟩ | ⟨h1, T, h2, h3, h4, h5, h6⟩
    · rw [h0]
      rw [← hK]
      exact ps_expr (pe_xi_own (C0 := F) gl (by rw [hmg]; exact h1) (by rw [hK]; exact h2) (by rw [hK]; exact h3) (by rw [hK]; exact h4) (by decide +kernel) args hdb (hc := hpl))
    · rw [← hK]
      refine ps_expr (pe_xi_ty (T := T) gl (by rw [hmg]; exact h1) h2 h4 h5 (by rw [hK]; exact h6) ?_ args hdb h3 (hc := hpl))
      rcases e.k with _ | _ | k
      · decide +kernel
      · decide +kernel
      · show PySem.W.handedIn (.builtin "LookupError.__init__") = true
        decide +kernel
  · rw [← hK]
    exact ps_xo (pe_var n0 v0) (pe_var n1 v1 hvd hvc)
theorem xd_mk (hE : ECok K F e) (hF : FunD K "__init__" qual params body scope dvs [] fI fd) (iC : PySem.W.findIn K (.ref e.a) "__init__" = some (some (.ref fI))) (tI : PySem.W.typeIn K (.ref fI) = some (.type "function")) (hf : FnOk P w K mg base C8.CX0 2 fI fd ["self", v] (spI e.a e.f))
    (hb : Binds K fd ["self", v] []) (g : mg e.n = some (.ref e.a)) : XD P w K mg base e.n e.f e.a :=
  ⟨⟨_, _, _, _, fI, fd, v, hE.xc, iC, tI, hf, hb⟩, g⟩
/-- the binding, its default read or not -/
theorem binds_d (hF : FunD K "__init__" qual params body scope [.non] [] fI fd)
    (h : ∀ (T : Addr) (kV doc pm : Value) (an : Option Addr) (cdv ct a u d : Value), ∃ k, bindArgs (PySem.W.fnOf "__init__" qual params body scope (.ref T) kV doc pm an cdv ct) ⟨[a, u], []⟩ = seqItems? (.ref T) >>= k ∧ k (some #[d]) = pure ((["self", v] : List Str).zip [a, u])) : Binds K fd ["self", v] [] := by
  obtain ⟨ds, r, b⟩ := hF.binds1 (ps := ["self", v]) 2 1 (by simp) rfl fun T kV doc pm an cdv ct us its h1 h2 => by
    obtain ⟨a, u, rfl⟩ : ∃ a u, us = [a, u] := by
      rcases us with _ | ⟨a, _ | ⟨u, _ | ⟨z, us⟩⟩⟩ <;> simp at h1
      exact ⟨a, u, rfl⟩
    obtain ⟨d, rfl⟩ : ∃ d, its = [d] := by
      rcases its with _ | ⟨d, _ | ⟨z, its⟩⟩ <;> simp at h2
      exact ⟨d, rfl⟩
    exact h T kV doc pm an cdv ct a u d
  cases r
  exact b
theorem binds_0 (hF : FunD K "__init__" qual params body scope [] [] fI fd) (h : ∀ (kV doc pm : Value) (an : Option Addr) (cdv ct a u : Value), bindArgs (PySem.W.fnOf "__init__" qual params body scope .none kV doc pm an cdv ct) ⟨[a, u], []⟩ = pure ((["self", v] : List Str).zip [a, u])) : Binds K fd ["self", v] [] :=
  hF.bindsN fun kV doc pm an cdv ct us h1 => by
    obtain ⟨a, u, rfl⟩ : ∃ a u, us = [a, u] := by
      rcases us with _ | ⟨a, _ | ⟨u, _ | ⟨z, us⟩⟩⟩ <;> simp at h1
      exact ⟨a, u, rfl⟩
    exact h kV doc pm an cdv ct a u
end
end FW
end

section
set_option Elab.async false
set_option linter.all false
set_option maxRecDepth 100000
set_option autoImplicit false
/-! FW20: the classes by name; what printed proofs need besides. -/
namespace FW
open PySem PySem.Spec PyProof.Rows L2

theorem u65 {k : Nat} {A : Around} (h : Room k A) : A.units + 65 < cLine := by
  have := h.un
  omega
theorem u2 {k : Nat} {A : Around} (h : Room k A) : A.units + 2 < cLine := by
  have := h.un
  omega
abbrev NL := List (Str × Str × Nat)
def fldN (N : NL) (c : Str) : Option Str := (N.find? fun e => e.1 == c).map (·.2.1)
def kndN (N : NL) (c : Str) : Nat := ((N.find? fun e => e.1 == c).map (·.2.2)).getD 9
def isFl (N : NL) (c : Str) : Bool := kndN N c == 0
def isB (N : NL) (b0 b1 b2 : Bool) (c : Str) : Bool := match kndN N c with
  | 0 => b0
  | 1 => b1
  | _ => b2
abbrev nmOf (L : List EC) : NL := L.map fun e => (e.n, e.f, e.k)
theorem find_nm (c : Str) : ∀ L : List EC, (nmOf L).find? (fun e => e.1 == c) = (L.find? fun e => e.n == c).map fun e => (e.n, e.f, e.k)
  | [] => rfl
  | e :: L => by
    show List.find? _ ((e.n, e.f, e.k) :: nmOf L) = _
    rw [List.find?_cons, List.find?_cons]
    by_cases h : (e.n == c) = true
    · rw [h]
      rfl
    · rw [Bool.eq_false_iff.mpr h]
      exact find_nm c L
section
variable {K : PySem.W.Frag} {F : Addr} {L : List EC} {N : NL}
theorem fld_nm (h : nmOf L = N) (c : Str) : fldOf L c = fldN N c := by
  subst h
  unfold fldOf fldN
  rw [find_nm, Option.map_map]
  rfl
theorem knd_nm (h : nmOf L = N) (c : Str) : kndOf L c = kndN N c := by
  subst h
  unfold kndOf kndN
  rw [find_nm, Option.map_map]
  rfl
theorem ECs.fldy (h : ECs K F L) (e : nmOf L = N) : ∀ c cl f, clF L c = some (cl, f) → fldN N c = some f ∧ XR K cl f := fun c cl f x => by
  rw [← fld_nm e]
  exact h.fldx c cl f x
theorem ECs.kitFN (h : ECs K F L) (e : nmOf L = N) : ∀ c cl f, clF L c = some (cl, f) → XR K cl f ∧ PySem.W.kitOne K (.ref cl) (.ref F) = some (isFl N c) := fun c cl f x => by
  unfold isFl
  rw [← knd_nm e]
  exact h.kitF c cl f x
theorem ECs.exmFN (h : ECs K F L) (e : nmOf L = N) : ∀ c cl f, clF L c = some (cl, f) → PySem.W.exmOne K (.ref cl) (.ref F) = some (isFl N c) := fun c cl f x => by
  unfold isFl
  rw [← knd_nm e]
  exact h.exmF c cl f x
theorem ECs.kitB (h : ECs K F L) (e : nmOf L = N) {T : String} {b0 b1 b2 : Bool} (hT : PySem.W.kitMeta T = true) (h0 : (bmT 0).contains (.type T) = b0) (h1 : (bmT 1).contains (.type T) = b1) (h2 : (bmT 2).contains (.type T) = b2) :
    ∀ c cl f, clF L c = some (cl, f) → XR K cl f ∧ PySem.W.kitOne K (.ref cl) (.type T) = some (isB N b0 b1 b2 c) := fun c cl f x => by
  unfold isB
  rw [← knd_nm e]
  exact h.kitT hT h0 h1 h2 c cl f x
end
section
variable {X : Cx} {C : Base} {W : WX}
theorem jts_one {e : Expr} {u : TF} (h : JT X C W e u) : PTs X [e] (tT C W u) := pts_one h
end
end FW
end

section
set_option Elab.async false
set_option linter.all false
set_option maxRecDepth 100000
set_option autoImplicit false
set_option maxHeartbeats 2000000
/-! FW21: exceptions whose text is known; str(e), str(i); a text within a text. -/
namespace FW
open PySem PySem.Spec L2 PySem.HandSPX
section
variable {prog : Program} {w : World} {A : Around} {E : Value → Shared → Prop} {R : Result → Shared → Prop} {h : Heap} {g : Array GenState} {d : Drawn} {t : Nat} {os : OsState}
variable {nm q : Str} {C N : Addr} {bs bm bmB : List Value} {hdct : Bool} {sn : List Str} {sub : List Value} {ab : Bool} {col : Option Bool} {dd : Option Addr} {k0 k1 k2 k3 k5 : Option Value} {B newId initId : String}
/-- the built-in's __init__, the arguments' tuple told -/
theorem init_msg (F : ExcBaseFacts B newId initId bmB) (hT : ∀ X : String, bm.contains (.type X) = bmB.contains (.type X)) {e t0 : Addr} {rest : List Value}
    (hC : h.get? C = some (excClassObj nm q C N bs bm hdct sn sub ab col dd k0 k1 k2 k3 k5 newId)) (he : h.get? e = some (excO C t0)) (hr : rest.length ≤ sizeLine)
    (hq : ∀ h', (∀ b o, b ≠ e → (h.push (PySem.W.kdv_tup rest)).get? b = some o → h'.get? b = some o) → h'.get? e = some (excO C h.objs.size) → R (.ok (.ret .none)) ⟨h', g, d, t, os⟩) :
    codeAny (model prog w) A (.call (.builtin initId) ⟨.ref e :: rest, []⟩) R ⟨h, g, d, t, os⟩ := by
  refine codeAny_call_builtin F.init.plain F.initEntry (check_init_own F hT hC he rfl ?_)
  wp_walk
  refine hq _ (fun b o hb ho => ?_) ?_
  · rw [Heap.get?_update_other _ _ (Ne.symm hb)]
    exact ho
  · rw [Heap.get?_update_self _ (Heap.get?_push_of_some _ he) rfl]
    rfl
end
open PyProof.Rows
/-- at a: an exception that is being made, its arguments' tuple at t -/
def exm (a C : Addr) (d : Option Addr) (t : Addr) : HO := .ext fun h => h.get? a = some ({ cls := .ref C, dict := d, data := .fields #[.ref t, .none, .none, .none, .bool false, .none] } : Obj)
theorem exm_ok {P : Program} {w : World} {H : Hp} {h : Heap} {a C t : Addr} {d : Option Addr} (e : h.get? a = some ({ cls := .ref C, dict := d, data := .fields #[.ref t, .none, .none, .none, .bool false, .none] } : Obj)) : ObjOk P w H h a (exm a C d t) :=
  ⟨e, ⟨_, e⟩, fun h1 h2 z k => k _ z⟩
theorem exm_at {P : Program} {w : World} {H : Hp} {h : Heap} {a C t : Addr} {d : Option Addr} (ok : HOk P w H h) (e : H a = some (exm a C d t)) : h.get? a = some ({ cls := .ref C, dict := d, data := .fields #[.ref t, .none, .none, .none, .bool false, .none] } : Obj) := (ok a _ e).1
theorem tup_ok {P : Program} {w : World} {H : Hp} {h : Heap} {a : Addr} {xs : List V} {us : List Value} (r : Vals xs us) (hz : xs.length ≤ sizeLine) (e : h.get? a = some (PySem.W.kdv_tup us)) : ObjOk P w H h a (.tup xs) := ⟨hz, us, r, ⟨_, e, rfl, _, rfl⟩⟩
section
variable {X : Cx} {pins : List (Addr × Obj)} {σ : L2.St} {H : Hp} {s : Shared} {a C t dx : Addr} {f : Str} {y : V} {u : Value} {E : Value → Shared → Prop} {A : Around} {B newId initId : String} {bmB : List Value}
theorem xm_init {us : List Value} {vs : List V} {Q : Value → Shared → Prop} (T : XC X.K C B newId initId bmB) (I : Inv X pins σ H s) (e : H a = some (exo a C none)) (hl : us.length ≤ sizeLine) (rv : Vals vs us)
    (h : ∀ t s', H t = none → t ≠ a → Inv X pins σ (upd (upd H t (.tup vs)) a (exm a C none t)) s' → Q .none s') : wpAny (model X.prog X.w) A (call (.builtin initId) (.ref a :: us)) Q E s := by
  obtain ⟨nm, q, N, bs, bm, sn, sub, ab, col, dd, k0, k1, k2, k3, k5, hC, hbm⟩ := T.obj
  obtain ⟨t1, ho⟩ := exo_at I.hok e
  obtain ⟨hp, g, d, tk, os⟩ := s
  have hn : H hp.objs.size = none := I.hok.fresh (Nat.le_refl _)
  have ne : hp.objs.size ≠ a := Nat.ne_of_gt (Heap.lt_size ho)
  refine wpAny_call (init_msg T.xb (fun Y => PySem.W.excTail_contains Y bm hbm) (I.kIn _ _ hC) ho hl fun h' k hx => ?_)
  have I1 : Inv X pins σ (upd H hp.objs.size (.tup vs)) ⟨hp.push (PySem.W.kdv_tup us), g, d, tk, os⟩ :=
    I.laid (t' := tk) (h' := hp.push (PySem.W.kdv_tup us)) (fun b o z => Heap.get?_push_of_some _ z) (Nat.le_refl _) (tup_ok rv (by rw [rv.length]; exact hl) (Heap.get?_push_size _ rfl))
  have e1 : upd H hp.objs.size (.tup vs) a = some (exo a C none) := by rw [upd_ne (Ne.symm ne)]; exact e
  have I2 := I1.write (t' := tk) (x := a) (e := a) (o := exm a C none hp.objs.size) (h' := h') (by rw [e1]; exact True.intro) (.inl rfl) k ⟨_, hx⟩ (exm_ok hx)
  exact h hp.objs.size _ hn ne I2
theorem xm_store {Q : Unit → Shared → Prop} (T : XC X.K C B newId initId bmB) (I : Inv X pins σ H s) (e : H a = some (exm a C none t)) (hno : PySem.W.takerIn X.K C f = some none) (ry : RelV y u)
    (h : ∀ dx s', H dx = none → dx ≠ a → Inv X pins σ (upd (upd H dx (exd dx [(f, y)])) a (exm a C (some dx) t)) s' → Q () s') : wpAny (model X.prog X.w) A (setAttr (.ref a) f u) Q E s := by
  have ho := exm_at I.hok e
  have hsz : a < s.heap.objs.size := Heap.lt_size ho
  refine PySem.W.set_plain I.kIn (od := none) ⟨ho, rfl, rfl, trivial⟩ T.sa ?_
  refine PySem.W.osa_openX (od := none) (s := { s with toks := s.toks + 1 }) T.xs I.kIn ⟨ho, rfl, rfl, trivial⟩ T.ov hno fun b => ?_
  obtain ⟨cd, hc, hd'⟩ := PySem.W.any_some T.dct
  refine wpAny_bind (wpAny_pure (wpAny_bind (PySem.W.instanceDict_exc ho (PySem.W.looks_clsIn I.kIn hc) hd' ?_)))
  have hnd : H s.heap.objs.size = none := I.hok.fresh (Nat.le_refl _)
  have dne : s.heap.objs.size ≠ a := Nat.ne_of_gt hsz
  obtain ⟨h1, eh1⟩ : ∃ h1 : Heap, h1 = (s.heap.push (PySem.W.dictOf [] 0)).update a fun o => { o with dict := some s.heap.objs.size } := ⟨_, rfl⟩
  have g1 : h1.get? s.heap.objs.size = some (PySem.W.dictOf [] 0) := by
    rw [eh1]
    exact (Heap.get?_update_ne _ _ _ _ dne).trans (Heap.get?_push_at rfl rfl)
  have ga : h1.get? a = some ({ cls := .ref C, dict := some s.heap.objs.size, data := .fields #[.ref t, .none, .none, .none, .bool false, .none] } : Obj) := by
    rw [eh1]
    exact Heap.get?_update_self _ (Heap.get?_push_of_some _ ho) rfl
  have go : ∀ b o, b ≠ a → s.heap.get? b = some o → h1.get? b = some o := fun b o hb z => by
    rw [eh1]
    exact (Heap.get?_update_ne _ _ _ _ hb).trans (Heap.get?_push_of_some _ z)
  have hnd1 : h1.Ns s.heap.objs.size (fun _ => none) := ⟨_, #[], _, g1, rfl, fun e he => absurd he (by simp), fun _ => rfl⟩
  rw [← eh1]
  show wpAny _ _ (Builtin.ObjectAttr.storeInDict s.heap.objs.size (.str f s.toks) f u) _ _ _
  refine HandSPX.store_in_new hnd1 fun h' tk' hn' hs => ?_
  have na : ∀ {b : Addr}, H b = none → b ≠ a := fun {b} n z => by
    rw [z, e] at n
    cases n
  have nd : ∀ {b : Addr} {o : Obj}, s.heap.get? b = some o → b ≠ s.heap.objs.size := fun {b o} q => Nat.ne_of_lt (Heap.lt_size q)
  have k : ∀ b o, b ≠ a → s.heap.get? b = some o → h'.get? b = some o := fun b o hb z => (hs.2 b (nd z)).trans (go b o hb z)
  have hx := (hs.2 a (Ne.symm dne)).trans ga
  have nt : ∀ {b : Addr} {o : HO}, H b = some o → (∀ φ, o ≠ .ext φ) → b ≠ a := fun {b o} q n z => by
    rw [z, e] at q
    exact n _ (Option.some.inj q).symm
  have U : Un X.fs [] H (upd (upd H s.heap.objs.size (exd s.heap.objs.size [(f, y)])) a (exm a C (some s.heap.objs.size) t)) s.heap h' := {
    keep := fun b o q n _ _ => k b o (na n) q
    slot := fun b o q n _ _ => ⟨o.slots, k b o (na n) q⟩
    free := fun b o q n _ => by rw [upd_ne (na n), upd_ne (nd q)]; exact n
    there := fun b o q _ => by
      by_cases hb : b = a
      · exact ⟨_, by rw [hb]; exact hx⟩
      · exact ⟨o, k b o hb q⟩
    tups := fun b xs q => by rw [upd_ne (nt q fun φ z => by cases z), upd_ne (ne_of_none q hnd)]; exact q
    frzs := fun b o v q => by rw [upd_ne (nt q fun φ z => by cases z), upd_ne (ne_of_none q hnd)]; exact q
    tbls := fun b ps q => ⟨#[], by rw [upd_ne (nt q fun φ z => by cases z), upd_ne (ne_of_none q hnd), q]; simp⟩ }
  refine h s.heap.objs.size _ hnd dne (I.un (t' := tk') U fun b o q => ?_)
  by_cases hb : b = a
  · subst hb
    rw [upd_same] at q
    cases q
    exact exm_ok hx
  · rw [upd_ne hb] at q
    by_cases hd : b = s.heap.objs.size
    · subst hd
      rw [upd_same] at q
      cases q
      exact exd_ok hn' (relO_put (fs := []) ry fun g => True.intro)
    · rw [upd_ne hd] at q
      exact (I.hok b o q).stay (fun c v hc z => k c v (by
          rcases hc with hc | hc
          · rw [hc]
            exact hb
          · exact nt hc fun φ z => by cases z) z)
        (fun c hc => by rw [upd_ne (nt hc fun φ z => by cases z), upd_ne (ne_of_none hc hnd)]; exact hc) (fun c xs hc => by rw [upd_ne (nt hc fun φ z => by cases z), upd_ne (ne_of_none hc hnd)]; exact hc)
end
/-! ### __init__ with its text -/
def tMI (K : PySem.W.Frag) (initId : String) (ta : TA) : TE := fun σ H Q => ta σ H fun vs H1 => ∃ (a C : Addr) (ws : List V) (B newId : String) (bmB : List Value), vs = .ref a :: ws ∧ ws.length ≤ 1000 ∧ XC K C B newId initId bmB ∧ H1 a = some (exo a C none) ∧
  ∀ t, H1 t = none → t ≠ a → Q .non (upd (upd H1 t (.tup ws)) a (exm a C none t))
def sMO (K : PySem.W.Frag) (f : Str) (to te : TE) : TS := fun D σ H => te σ H fun y H1 => to σ H1 fun x H2 => ∃ (a C t : Addr) (B newId initId : String) (bmB : List Value), x = .ref a ∧ XC K C B newId initId bmB ∧ PySem.W.takerIn K C f = some none ∧
  H2 a = some (exm a C none t) ∧ ∀ dx, H2 dx = none → dx ≠ a → D.nx σ (upd (upd H2 dx (exd dx [(f, y)])) a (exm a C (some dx) t))
section
variable {X : Cx} {e o : Expr} {es : List Expr} {ta : TA} {to te : TE} {p1 p2 pos p' : Pos} {initId : String} {f : Str}
theorem mi_args {ps : Pos} {s : Shared} {pins : List (Addr × Obj)} {σ : L2.St} {H : Hp} {Q : VK} (ha : PA X (e :: es) ta) (I : Inv X pins σ H s) (h : tMI X.K initId ta σ H Q) (he : starEach (e :: es) X.env = (false, eval e X.env) :: starEach es X.env) (hpl : (backTo ps (starEach es X.env)).any (·.1) = false) :
    wpAny (model X.prog X.w) X.A (callWith ps (.builtin initId) [] (backTo ps (starEach (e :: es) X.env)) []) (EP X pins σ Q) X.xe s := by
  refine PyProof.Rows.callWith_method1 (thn (ha.run ps pins _ σ H _ I h) fun us s1 ⟨vs, H1, I1, r1, a, C, ws, B, newId, bmB, ev, hl, T, ea, q⟩ => ?_) he hpl
  subst ev
  cases r1 with
  | @cons _ u0 _ ur ra rw' =>
    obtain rfl : u0 = Value.ref a := ra
    exact xm_init T I1 ea (by rw [← Paired.length rw', sizeLine_eq]; omega) rw' fun t s' n ne J => ⟨.non, _, J, rfl, q t n ne⟩
theorem pe_mi_own {C0 : Addr} {x : Str} {pl : Sem Bool} (hg : Gl X x) (hm : X.mg x = some (.ref C0)) (hsp : PySem.W.specialIn X.K (.ref C0) "__getattribute__" = some (some (.builtin "type.__getattribute__"))) (hr : PySem.W.readsIn X.K C0 (.type "type") = true)
    (hf : PySem.W.findCls X.K (.ref C0) (.type "type") "__init__" = some (.val (.builtin initId))) (hh : PySem.W.handedIn (.builtin initId) = true) (ha : PA X (e :: es) ta) (hdb : (x == ("__debug__" : Str)) = false)
    (hc : eval (.Call (.Attribute (.Name x p1) "__init__" p2) (e :: es) [] pos) X.env = (do
      let ov ← eval (.Name x p1) X.env
      standAt p2.atName
      let (f, first) ← holding [ov] (getMethod ov "__init__" pl)
      callWith pos f first (backTo pos (starEach (e :: es) X.env)) (backToKw pos (keywordEach [] X.env))))
    (he : starEach (e :: es) X.env = (false, eval e X.env) :: starEach es X.env := by rfl) (hpl : (backTo pos (starEach es X.env)).any (·.1) = false := by rfl) :
    PE X (.Call (.Attribute (.Name x p1) "__init__" p2) (e :: es) [] pos) (tMI X.K initId ta) := by
  refine ⟨fun pins s σ H Q I h => ?_⟩
  refine PySem.W.methodCall_KW (ld_glob I hg hm ?_ hdb) hc
  refine PySem.W.method_cls I.kIn hsp (PySem.W.cls_value I.kIn hr hf hh ?_)
  exact mi_args ha (I.tok _) h he hpl
theorem pe_mi_ty {T : String} {x : Str} {pl : Sem Bool} (hg : Gl X x) (hm : X.mg x = none) (hbt : bootBuiltins x = some (.type T)) (hty : typeOf (.type T) = pure (.type "type")) (hstub : Manifest.isStub T = false)
    (hf : PySem.W.findCls X.K (.type T) (.type "type") "__init__" = some (.val (.builtin initId))) (hh : PySem.W.handedIn (.builtin initId) = true) (ha : PA X (e :: es) ta) (hdb : (x == ("__debug__" : Str)) = false) (hnm : x ≠ "__name__")
    (hc : eval (.Call (.Attribute (.Name x p1) "__init__" p2) (e :: es) [] pos) X.env = (do
      let ov ← eval (.Name x p1) X.env
      standAt p2.atName
      let (f, first) ← holding [ov] (getMethod ov "__init__" pl)
      callWith pos f first (backTo pos (starEach (e :: es) X.env)) (backToKw pos (keywordEach [] X.env))))
    (he : starEach (e :: es) X.env = (false, eval e X.env) :: starEach es X.env := by rfl) (hpl : (backTo pos (starEach es X.env)).any (·.1) = false := by rfl) :
    PE X (.Call (.Attribute (.Name x p1) "__init__" p2) (e :: es) [] pos) (tMI X.K initId ta) := by
  refine ⟨fun pins s σ H Q I h => ?_⟩
  refine PySem.W.methodCall_KW (ld_blt I hg hm hbt ?_ hnm hdb) hc
  obtain ⟨m, fr⟩ := I.fr
  refine PySem.W.method_type fr I.ok.mod.kin hty hstub hf hh ?_
  exact mi_args ha (I.tok _) h he hpl
theorem ps_mo (ho : PE X o to) (he : PE X e te) (hs : swapsWith e (some (.Attribute o f p')) pos.line X.env = pure false := by rfl) : PS X (.Assign [.Attribute o f p'] e pos) (sMO X.K f to te) := by
  refine ⟨fun pins s σ H D I h => ?_⟩
  refine plainObj_wpAny_Assign_Attribute (thn (he.run pins s σ H _ I h) fun v s1 ⟨y, H1, I1, r1, q1⟩ => thn (ho.run pins s1 σ H1 _ I1 q1) fun u s2 ⟨x, H2, I2, r2, a, C, t, B, newId, initId, bmB, ex, T, hno, ea, q⟩ => ?_) hs
  subst ex
  obtain rfl : u = Value.ref a := r2
  exact xm_store T I2 ea hno r1 fun dx s' n ne J => ⟨σ, _, J, q dx n ne⟩
end
def spM (C : Addr) (f msg : Str) : Sp := fun vs H Q _ => ∃ (a : Addr) (y : V), vs = [.ref a, y] ∧ H a = some (exo a C none) ∧ ∀ t dx, H t = none → t ≠ a → H dx = none → dx ≠ a → dx ≠ t →
  Q .non (upd (upd (upd (upd H t (.tup [.str msg])) a (exm a C none t)) dx (exd dx [(f, y)])) a (exm a C (some dx) t))
theorem spM_len {C : Addr} {f msg : Str} {v : Str} : ∀ vs H Q E, spM C f msg vs H Q E → vs.length = (["self", v] : List Str).length := fun vs H Q E h => by
  obtain ⟨a, y, rfl, _⟩ := h
  rfl
end FW
end

section
set_option Elab.async false
set_option linter.all false
set_option maxRecDepth 100000
set_option autoImplicit false
set_option maxHeartbeats 2000000
/-! FW22: exceptions with their text, as values. -/
namespace FW
open PySem PySem.Spec PyProof.Rows L2

section
variable {P : Program} {w : World} {K : PySem.W.Frag} {mg : Str → Option Value} {base : Heap} {F : Addr} {e : EC} {qual v b msg : Str} {params : Arguments} {body : List Stmt} {scope : Scope} {dvs : List V} {fI : Addr} {fd : FuncData} {k : Nat}
theorem mi_fn (hE : ECok K F e) (hF : FunD K "__init__" qual params body scope dvs [] fI fd) (S : FnScope ["self", v] ["self", v] scope) (hb : InitB scope b msg e.f v body) (hB : BaseOk K mg F b e.k) (hgl : scope.names.lookup b = some .globalImplicit) (hdb : (b == ("__debug__" : Str)) = false)
    (hself : Vis scope "self") (hv : Vis scope v) (hvd : (v == ("__debug__" : Str)) = false) (hvc : (v == ("__classdict__" : Str)) = false) : FnOk P w K mg base C8.CX0 (k + 1) fI fd ["self", v] (spM e.a e.f msg) := by
  refine hF.ok S spM_len fun cdv A outer s H vs Q E hr h => ?_
  obtain ⟨p1, p2, p3, p4, p5, p6, p7, p8, p9, p10, j, rfl, hev⟩ := hb
  obtain ⟨a, y, rfl, ea, q⟩ := h
  obtain ⟨X, hX⟩ : ∃ X, X = cxOf C8.CX0 P w K mg base ["self", v] qual scope fI cdv A outer s H E := ⟨_, rfl⟩
  have hK : X.K = K := by rw [hX] <;> rfl
  have hmg : X.mg = mg := by rw [hX] <;> rfl
  have hN : X.N = (["self", v] : List Str) := by rw [hX] <;> rfl
  have hsc : X.env.scope = scope := by rw [hX] <;> rfl
  obtain ⟨pl, hpl⟩ := hev X.env hsc
  have gl : Gl X b := by
    show X.env.scope.names.lookup b = some .globalImplicit
    rw [hsc]
    exact hgl
  have v0 : Vis X.env.scope "self" := by rw [hsc]; exact hself
  have v1 : Vis X.env.scope v := by rw [hsc]; exact hv
  have n0 : X.N[0]? = some ("self" : Str) := by rw [hN]; rfl
  have n1 : X.N[1]? = some v := by rw [hN]; rfl
  have args : PA X [.Name "self" p3, .Constant (.str msg) j p4] (tCons (tVar 0) (tCons (tC (.str msg)) tNil)) := pa_cons (pe_var n0 v0) (pa_cons pe_str pa_nil)
  have hh : PySem.W.handedIn (.builtin (initE e.k)) = true := by
    rcases e.k with _ | _ | k
    · decide +kernel
    · decide +kernel
    · show PySem.W.handedIn (.builtin "LookupError.__init__") = true
      decide +kernel
  have s1 : PS X (.Expr (.Call (.Attribute (.Name b p1) "__init__" p2) [.Name "self" p3, .Constant (.str msg) j p4] [] p5) p6) (tDrop (tMI X.K (initE e.k) (tCons (tVar 0) (tCons (tC (.str msg)) tNil)))) := by
    rcases hB with ⟨h0, h1, h2, h3, h4⟩ | ⟨h1, T, h2, h3, h4, h5, h6⟩
    · exact ps_expr (pe_mi_own (C0 := F) gl (by rw [hmg]; exact h1) (by rw [hK]; exact h2) (by rw [hK]; exact h3) (by rw [hK, h0]; exact h4) hh args hdb hpl)
    · exact ps_expr (pe_mi_ty (T := T) gl (by rw [hmg]; exact h1) h2 h4 h5 (by rw [hK]; exact h6) hh args hdb h3 hpl)
  have s2 : PS X (.Assign [.Attribute (.Name "self" p7) e.f p8] (.Name v p9) p10) (sMO X.K e.f (tVar 0) (tVar 1)) := ps_mo (pe_var n0 v0) (pe_var n1 v1 hvd hvc)
  rw [← hX]
  refine ⟨_, pss_cons s1 (pss_cons s2 pss_nil), ?_⟩
  refine ⟨.ref a, rfl, a, e.a, [.str msg], _, _, _, rfl, by simp, by rw [hK]; exact hE.xc, ea, fun t nt ne => ?_⟩
  refine ⟨y, rfl, .ref a, rfl, a, e.a, t, _, _, _, _, rfl, by rw [hK]; exact hE.xc, by rw [hK]; exact hE.tk, upd_same, fun dx nd ned => ?_⟩
  rw [upd_ne ned] at nd
  have dt : dx ≠ t := fun z => by
    rw [z, upd_same] at nd
    cases nd
  rw [upd_ne dt] at nd
  exact q t dx nt ne nd ned dt
end

/-- an own exception class, its text msg told: called with nothing, with a value, by keyword -/
structure XM (P : Program) (w : World) (K : PySem.W.Frag) (mg : Str → Option Value) (base : Heap) (x f v msg : Str) (dflt : Bool) (C : Addr) : Prop where
  ex : ∃ (B newId initId : String) (bmB : List Value) (fI : Addr) (fd : FuncData), XC K C B newId initId bmB ∧ PySem.W.findIn K (.ref C) "__init__" = some (some (.ref fI)) ∧ PySem.W.typeIn K (.ref fI) = some (.type "function") ∧
    FnOk P w K mg base C8.CX0 2 fI fd ["self", v] (spM C f msg) ∧ Binds K fd ["self", v] [] ∧ (∀ (s : Shared) (a : Addr) (u : Value), K.In s.heap → BindsTo s fd ⟨[.ref a], [(v, u)]⟩ ((["self", v] : List Str).zip [.ref a, u])) ∧
    (dflt = true → ∀ (s : Shared) (a : Addr), K.In s.heap → BindsTo s fd ⟨[.ref a], []⟩ ((["self", v] : List Str).zip [.ref a, .none]))
  g : mg x = some (.ref C)
section
variable {X : Cx} {pins : List (Addr × Obj)} {σ : St} {H : Hp} {s : Shared} {C : Addr} {f v msg : Str} {y : V} {u : Value} {Q : Value → Shared → Prop} {B newId initId : String} {bmB : List Value} {fI : Addr} {fd : FuncData} {k : Nat} {rest : List Value} {kw : List (Str × Value)}
theorem xm_make (T : XC X.K C B newId initId bmB) (iC : PySem.W.findIn X.K (.ref C) "__init__" = some (some (.ref fI))) (tI : PySem.W.typeIn X.K (.ref fI) = some (.type "function")) (F1 : FnOk X.prog X.w X.K X.mg X.base C8.CX0 k fI fd ["self", v] (spM C f msg)) (hr : Room (k + 1) X.A)
    (hb : ∀ (s : Shared) (a : Addr), X.K.In s.heap → BindsTo s fd ⟨.ref a :: rest, kw⟩ ((["self", v] : List Str).zip [.ref a, u])) (hl : rest.length ≤ sizeLine) (I : Inv X pins σ H s) (ry : RelV y u)
    (h : ∀ (a t dx : Addr) (s' : Shared), H a = none → H t = none → t ≠ a → H dx = none → dx ≠ a → dx ≠ t → Inv X pins σ (upd (upd (upd H t (.tup [.str msg])) dx (.xd [(f, y)])) a (exW a C dx t)) s' → Q (.ref a) s') :
    wpAny (model X.prog X.w) X.A (call (.ref C) rest kw) Q X.xe s := by
  obtain ⟨nm, q, N, bs, bm, sn, sub, ab, col, dd, k0, k1, k2, k3, k5, hC, hbm⟩ := T.obj
  obtain ⟨hp, g, dr, tk, os⟩ := s
  obtain ⟨A0, eA⟩ : ∃ A0 : Addr, A0 = hp.objs.size + 1 := ⟨_, rfl⟩
  have hsz : hp.objs.size ≤ A0 := by rw [eA]; exact Nat.le_succ _
  have hn : H A0 = none := I.hok.fresh hsz
  have kk : ∀ b o, hp.get? b = some o → ((hp.push (PySem.W.kdv_tup rest)).push (PySem.HandSPX.excO C hp.objs.size)).get? b = some o := fun b o e => Heap.get?_push_of_some _ (Heap.get?_push_of_some _ e)
  have hget : ((hp.push (PySem.W.kdv_tup rest)).push (PySem.HandSPX.excO C hp.objs.size)).get? A0 = some (PySem.HandSPX.excO C hp.objs.size) := by
    rw [eA]
    heap_get
  have I2 : Inv X pins σ (upd H A0 (exo A0 C none)) ⟨(hp.push (PySem.W.kdv_tup rest)).push (PySem.HandSPX.excO C hp.objs.size), g, dr, tk, os⟩ :=
    I.laid (t' := tk) (a := A0) (o := exo A0 C none) (h' := (hp.push (PySem.W.kdv_tup rest)).push (PySem.HandSPX.excO C hp.objs.size)) kk hsz (exo_ok hget)
  have hq : spM C f msg [V.ref A0, y] (upd H A0 (exo A0 C none)) (fun r H2 => r = .non ∧ ∃ t dx, H t = none ∧ t ≠ A0 ∧ H dx = none ∧ dx ≠ A0 ∧ dx ≠ t ∧
      H2 = upd (upd (upd (upd (upd H A0 (exo A0 C none)) t (.tup [.str msg])) A0 (exm A0 C none t)) dx (exd dx [(f, y)])) A0 (exm A0 C (some dx) t)) (fun _ _ _ => False) :=
    ⟨_, _, rfl, upd_same, fun t dx nt ne nd ned dt => ⟨rfl, t, dx, by rw [upd_ne ne] at nt; exact nt, ne, by rw [upd_ne ned] at nd; exact nd, ned, dt, rfl⟩⟩
  refine wpAny_call (xk_call T.xb (fun Y => PySem.W.excTail_contains Y bm hbm) (I.kIn _ _ hC) (PySem.W.looks_findIn I.kIn iC) (fun self => PySem.W.bind_fn I.kIn self tI) hl ?_)
  rw [← eA]
  refine codeAny_mono (F1.run _ X.stack _ _ ⟨.ref A0 :: rest, kw⟩ [.ref A0, u] _ _ (fun _ _ _ => False) (hr.make C rest kw) (I2.env0.make C rest kw) (hb _ _ I2.kIn) (.cons (show RelV (.ref A0) (.ref A0) from rfl) (.cons ry .nil)) hq) fun r s' hq' => ?_
  cases r with
  | error er => exact hq'.elim
  | ok fl =>
    cases fl with
    | next => exact False.elim hq'
    | brk => exact False.elim hq'
    | cont => exact False.elim hq'
    | ret u =>
      obtain ⟨v', H2, os2, bare2, un2, hok2, rv, ev, t, dx, nt, tne, nd, ne, dt, eH⟩ := hq'
      subst ev
      obtain ⟨h2, g2, d2, t2, os'⟩ := s'
      have ea : H2 A0 = some (exm A0 C (some dx) t) := by rw [eH, upd_same]
      have ed : H2 dx = some (exd dx [(f, y)]) := by rw [eH, upd_ne ne, upd_same]
      have et : H2 t = some (.tup [.str msg]) := by rw [eH, upd_ne tne, upd_ne (Ne.symm dt), upd_ne tne, upd_same]
      have hx := exm_at hok2 ea
      -- the tuple's own address is forgotten for a while
      have eA2 : ∀ b, b ≠ A0 → upd H2 A0 (exo A0 C (some dx)) b = H2 b := fun b hb => upd_ne hb
      have nA : ∀ {b : Addr} {o : HO}, H2 b = some o → (∀ φ, o ≠ .ext φ) → b ≠ A0 := fun {b o} z n e => by
        rw [e, ea] at z
        exact n _ (Option.some.inj z).symm
      have hok3 : HOk X.prog X.w (upd H2 A0 (exo A0 C (some dx))) h2 := fun b o z => by
        by_cases hb : b = A0
        · subst hb
          rw [upd_same] at z
          cases z
          exact exo_ok hx
        · rw [upd_ne hb] at z
          exact (hok2 b o z).stay (fun c w' _ r => r) (fun c hc => by rw [upd_ne (nA hc fun φ z => by cases z)]; exact hc) fun c xs hc => by rw [upd_ne (nA hc fun φ z => by cases z)]; exact hc
      have un3 : Un (frs X.stack) [] (upd H A0 (exo A0 C none)) (upd H2 A0 (exo A0 C (some dx))) ((hp.push (PySem.W.kdv_tup rest)).push (PySem.HandSPX.excO C hp.objs.size)) h2 := by
        refine ⟨un2.keep, un2.slot, fun b o z n hx => ?_, un2.there, fun b xs z => ?_, fun b o u z => ?_, fun b ps z => ?_⟩
        · have hb : b ≠ A0 := fun q => by
            rw [q, upd_same] at n
            cases n
          rw [upd_ne hb]
          exact un2.free b o z n hx
        · have := un2.tups b xs z
          rw [upd_ne (nA this fun φ z => by cases z)]
          exact this
        · have := un2.frzs b o u z
          rw [upd_ne (nA this fun φ z => by cases z)]
          exact this
        · obtain ⟨m, this⟩ := un2.tbls b ps z
          exact ⟨m, by rw [upd_ne (nA this fun φ z => by cases z)]; exact this⟩
      obtain ⟨t0, G, J, kG, ge, hoe, na⟩ := mk_end0 (d2 := d2) (t2 := t2) I hsz kk un3 hok3 os2 bare2 upd_same (by rw [upd_ne ne]; exact ed) nd
      have et0 : t0 = t := by
        rw [hx] at hoe
        have := congrArg Obj.data (Option.some.inj hoe)
        simp only at this
        have := Data.fields.inj this
        simpa using this.symm
      subst et0
      have eF : upd (L2.del (upd H2 A0 (exo A0 C (some dx))) A0) dx (.xd [(f, y)]) = upd (upd H t0 (.tup [.str msg])) dx (.xd [(f, y)]) := funext fun b => by
        by_cases hb : b = dx
        · rw [hb, upd_same, upd_same]
        · rw [upd_ne hb, upd_ne hb]
          by_cases hb2 : b = A0
          · rw [hb2, del_same, upd_ne (Ne.symm tne), hn]
          · rw [del_ne hb2, upd_ne hb2, eH, upd_ne hb2, upd_ne hb, upd_ne hb2]
            by_cases hb3 : b = t0
            · rw [hb3, upd_same, upd_same]
            · rw [upd_ne hb3, upd_ne hb3, upd_ne hb2]
      rw [eF] at J
      have na' : upd (upd H t0 (.tup [.str msg])) dx (.xd [(f, y)]) A0 = none := by rw [upd_ne (Ne.symm ne), upd_ne (Ne.symm tne)]; exact hn
      have J2 := J.laidN (o := exW A0 C dx t0) (t' := t2) kG ge na' ⟨⟨_, _, hoe, ⟨rfl, rfl⟩, rfl, rfl⟩, ⟨_, hoe⟩, fun h1 h2 ⟨oe, vs, z⟩ k => ⟨oe, vs, k _ z.1, z.2⟩⟩
      exact ⟨rv, h A0 t0 dx _ hn nt tne nd ne dt J2⟩
end
abbrev excM (c : Str) (d : PyData) (msg : Str) : PyData := .dict [(.str c, d), (.str msg, .none)]
section
variable {Z H : Hp} {Q : VK} {a t dx cl : Addr} {y : V} {d : PyData} {x f msg : Str} {cls : Cls}
theorem give_m (hcl : cls.f x = some (cl, f)) (hs : Sub Z H) (r : RD cls Z y d) (na : H a = none) (nt : H t = none) (tne : t ≠ a) (nd : H dx = none) (ne : dx ≠ a) (dt : dx ≠ t) (q : Give cls Z H (.v (excM x d msg)) Q) : Q (.ref a) (upd (upd (upd H t (.tup [.str msg])) dx (.xd [(f, y)])) a (exW a cl dx t)) := by
  have nd1 : upd H t (.tup [.str msg]) dx = none := by rw [upd_ne dt]; exact nd
  have na1 : upd (upd H t (.tup [.str msg])) dx (.xd [(f, y)]) a = none := by rw [upd_ne (Ne.symm ne), upd_ne (Ne.symm tne)]; exact na
  have s1 : Sub (upd Z t (.tup [.str msg])) (upd H t (.tup [.str msg])) := hs.upd
  have s2 : Sub (upd (upd Z t (.tup [.str msg])) dx (.xd [(f, y)])) (upd (upd H t (.tup [.str msg])) dx (.xd [(f, y)])) := s1.upd
  have z1 : Sub Z (upd Z t (.tup [.str msg])) := Sub.new (hs.none nt)
  have z2 : Sub (upd Z t (.tup [.str msg])) (upd (upd Z t (.tup [.str msg])) dx (.xd [(f, y)])) := Sub.new (s1.none nd1)
  have z3 : Sub (upd (upd Z t (.tup [.str msg])) dx (.xd [(f, y)])) (upd (upd (upd Z t (.tup [.str msg])) dx (.xd [(f, y)])) a (exW a cl dx t)) := Sub.new (s2.none na1)
  refine q (.ref a) _ _ ((z1.trans z2).trans z3) (((Sub.new nt).trans (Sub.new nd1)).trans (Sub.new na1)) s2.upd (fun b u e => ?_)
    (RD.exm hcl upd_same (by rw [upd_ne tne, upd_ne (Ne.symm dt), upd_same]) (by rw [upd_ne ne, upd_same]) (((z1.trans z2).trans z3).dp _ _ r))
  by_cases hb : b = a
  · subst hb
    rw [upd_same] at e
    cases e
    exact .inr ⟨na, fun ps z => by cases z⟩
  · rw [upd_ne hb] at e
    by_cases hd : b = dx
    · subst hd
      rw [upd_same] at e
      cases e
      exact .inr ⟨nd, fun ps z => by cases z⟩
    · rw [upd_ne hd] at e
      by_cases ht : b = t
      · subst ht
        rw [upd_same] at e
        cases e
        exact .inr ⟨nt, fun ps z => by cases z⟩
      · rw [upd_ne ht] at e
        exact .inl e
end
def jM0 (c msg : Str) : JF := fun ρ => .ok (.tmp (.v (excM c .none msg))) ρ
def jM (c msg : Str) (g : AF) : JF := fun ρ => (g ρ).bind fun ss ρ1 => match oneV ρ1 ss with
  | some d => .ok (.tmp (.v (excM c d msg))) ρ1
  | none => .stuck
section
variable {X : Cx} {C : Base} {W : WX} {x f v msg : Str} {cl : Addr} {dflt : Bool} {e : Expr} {g : JF} {ag : AF} {p pos kpos : Pos}
theorem je_m0 (T : XM X.prog X.w X.K X.mg X.base x f v msg true cl) (hcl : C.cls.f x = some (cl, f)) (hr : Room 3 X.A) (hg : Gl X x) (hdb : (x == ("__debug__" : Str)) = false := by decide) : JE X C W (.Call (.Name x p) [] [] pos) (jM0 x msg) := by
  refine ⟨fun pins s σ H Q I h => ?_⟩
  obtain ⟨B, newId, initId, bmB, fI, fd, T1, iC, tI, F1, _, _, b0⟩ := T.ex
  obtain ⟨Zb, Z, o, ρ, Tm, w, k⟩ := h
  refine wpAny_Call_Name_kw (ld_glob I hg T.g ?_ hdb)
  refine PySem.W.callWith_K0 I.kIn T1.kC ?_
  exact xm_make (rest := []) (kw := []) (y := .non) (u := .none) T1 iC tI F1 hr (fun s a hK => b0 rfl s a hK) (Nat.zero_le _) I rfl fun a t dx s' na nt tne nd ne dt J =>
    ⟨.ref a, _, J, rfl, give_m (cls := C.cls) hcl w.zh .non na nt tne nd ne dt (w.give fun v Z' H' o' w' => k Z' H' o' v _ w' rfl)⟩
theorem je_m (T : XM X.prog X.w X.K X.mg X.base x f v msg dflt cl) (hcl : C.cls.f x = some (cl, f)) (hr : Room 3 X.A) (hg : Gl X x) (ha : JA X C W [e] ag) (hdb : (x == ("__debug__" : Str)) = false := by decide)
    (he : starEach [e] X.env = (false, eval e X.env) :: starEach [] X.env := by rfl) (hpl : (backTo pos (starEach [] X.env)).any (·.1) = false := by rfl) : JE X C W (.Call (.Name x p) [e] [] pos) (jM x msg ag) := by
  refine ⟨fun pins s σ H Q I h => ?_⟩
  obtain ⟨B, newId, initId, bmB, fI, fd, T1, iC, tI, F1, b1, _, _⟩ := T.ex
  obtain ⟨Zb, Z, o, ρ, Tm, w, k⟩ := h
  refine wpAny_Call_Name_kw (ld_glob I hg T.g ?_ hdb)
  refine PySem.W.callWith_K (h₀ := X.base) I.ok.mod.kin T1.kC (thn (ha.run pos pins s σ H (fun vs H1 => ∃ y d, vs = [y] ∧ ∃ Z1 o1 ρ1, Own (C.at Zb) Z1 H1 o1 σ ρ1 Tm ∧ RD C.cls Z1 y d ∧ kJ (C.at Zb) W σ Tm (.ok (.tmp (.v (excM x d msg))) ρ1) Q) I ?_) fun us s1 ⟨vs, H1, I1, r1, y, d, ev, Z1, o1, ρ1, w1, r, k1⟩ => ⟨I1.kIn, ?_⟩) he hpl
  · refine ⟨Zb, Z, o, ρ, Tm, w, ?_⟩
    unfold jM at k
    cases hf : ag ρ with
    | stuck => rw [hf] at k; exact k
    | exc c d ρ1 => rw [hf] at k; exact k
    | ok ss ρ1 =>
      rw [hf] at k
      simp only [Res.bind_ok] at k
      intro Z1 H1 o1 vs T1 w1 a1
      cases h1 : oneV ρ1 ss with
      | none => rw [h1] at k; exact k.elim
      | some d =>
        rw [h1] at k
        obtain ⟨y, rfl, r⟩ := one_rd w1 a1 h1
        obtain ⟨R, eR⟩ := a1.pre
        exact ⟨y, d, rfl, Z1, o1, ρ1, w1.cut eR, r, k⟩
  · subst ev
    show wpAny _ _ (call (.ref cl) us) _ _ _
    cases r1 with
    | @cons _ u _ ur ru rr =>
      cases rr
      exact xm_make (rest := [u]) (kw := []) (y := y) (u := u) T1 iC tI F1 hr (fun s a hK => b1 s [.ref a, u] hK rfl) (by rw [sizeLine_eq]; simp) I1 ru fun a t dx s' na nt tne nd ne dt J =>
        ⟨.ref a, _, J, rfl, give_m (cls := C.cls) hcl w1.zh r na nt tne nd ne dt (w1.give fun v Z' H' o' w' => k1 Z' H' o' v _ w' rfl)⟩
theorem je_mk (T : XM X.prog X.w X.K X.mg X.base x f v msg dflt cl) (hcl : C.cls.f x = some (cl, f)) (hr : Room 3 X.A) (hg : Gl X x) (he : JE X C W e g) (hdb : (x == ("__debug__" : Str)) = false := by decide)
    (hall : (backToKw pos (keywordEach [⟨some v, e, kpos⟩] X.env)).all (·.1.isSome) = true := by rfl) (hks : (backToKw pos (keywordEach [⟨some v, e, kpos⟩] X.env)).filterMap (·.1) = [v] := by rfl)
    (hpl : ((backTo pos (starEach [] X.env)).any (·.1) || (backToKw pos (keywordEach [⟨some v, e, kpos⟩] X.env)).any (·.1.isNone)) = false := by rfl) :
    JE X C W (.Call (.Name x p) [] [⟨some v, e, kpos⟩] pos) (jM x msg (aCons (jFrz g) aNil)) := by
  refine ⟨fun pins s σ H Q I h => ?_⟩
  obtain ⟨B, newId, initId, bmB, fI, fd, T1, iC, tI, F1, _, bK, _⟩ := T.ex
  refine wpAny_Call_Name_kw (ld_glob I hg T.g ?_ hdb)
  refine PySem.W.callWith_KW0 (h₀ := X.base) I.ok.mod.kin T1.kC hall ?_ hpl
  have hp : PK X [⟨some v, e, kpos⟩] (tCons (tJ C W (jFrz g)) tNil) := pk_cons (je_frz he) pk_nil
  obtain ⟨Zb, Z, o, ρ, Tm, w, k⟩ := h
  refine thn (hp.run pos pins s σ H (fun vs H1 => ∃ y d, vs = [y] ∧ ∃ Z1 o1 ρ1, Own (C.at Zb) Z1 H1 o1 σ ρ1 Tm ∧ RD C.cls Z1 y d ∧ kJ (C.at Zb) W σ Tm (.ok (.tmp (.v (excM x d msg))) ρ1) Q) I ?_) fun ws s2 ⟨vs, H2, I2, rz, y, d, ev, Z1, o1, ρ1, w1, r, k1⟩ => ⟨I2.kIn, ?_⟩
  · refine ⟨Zb, Z, o, ρ, Tm, w, ?_⟩
    unfold jM aCons at k
    cases hf : jFrz g ρ with
    | stuck => rw [hf] at k; exact k
    | exc c d ρ1 => rw [hf] at k; exact k
    | ok s1 ρ1 =>
      rw [hf] at k
      simp only [Res.bind_ok, aNil] at k
      intro Z1 H1 o1 y T1 w1 a1
      refine ⟨y, ?_⟩
      cases h1 : oneV ρ1 [s1] with
      | none => rw [h1] at k; exact k.elim
      | some d =>
        rw [h1] at k
        obtain ⟨y', ey, r⟩ := one_rd w1 (show Ats σ Tm T1 [y] [s1] from ⟨y, [], T1, rfl, a1, rfl, rfl⟩) h1
        cases ey
        obtain ⟨R, eR⟩ := a1.pre
        exact ⟨d, rfl, Z1, o1, ρ1, w1.cut eR, r, k⟩
  · subst ev
    cases rz with
    | @cons _ u _ ur ru rr =>
      cases rr
      rw [hks]
      exact xm_make (rest := []) (kw := [(v, u)]) (y := y) (u := u) T1 iC tI F1 hr (fun s a hK => bK s a u hK) (Nat.zero_le _) I2 ru fun a t dx s' na nt tne nd ne dt J =>
        ⟨.ref a, _, J, rfl, give_m (cls := C.cls) hcl w1.zh r na nt tne nd ne dt (w1.give fun v Z' H' o' w' => k1 Z' H' o' v _ w' rfl)⟩
end
end FW
end

section
set_option Elab.async false
set_option linter.all false
set_option maxRecDepth 100000
set_option autoImplicit false
/-! FW23: fields and classes of exceptions, with or without a text; str; a text within a text. -/
namespace FW
open PySem PySem.Spec PyProof.Rows L2

/-- an exception's class and its field's value -/
def M.exc? : M → Option (Str × PyData)
  | .v (.dict [(.str c, d)]) => some (c, d)
  | .v (.dict [(.str c, d), (.str _, .none)]) => some (c, d)
  | _ => none
def mAtt (fs : Str → Option Str) (f : Str) (m : M) : Option M := match m.exc? with
  | some (c, d) => if fs c = some f then some (.v d) else none
  | none => none
def mIsE (p : Str → Bool) (m : M) : Option M := m.exc?.map fun cd => .v (.bool (p cd.1))
section
variable {X : Cx} {pins : List (Addr × Obj)} {σ : St} {H : Hp} {s : Shared} {a Cl dx t : Addr} {f : Str} {v : V}
/-- an exception of the class at Cl stands at a -/
def ExcAt (H : Hp) (a Cl dx : Addr) : Prop := H a = some (exV a Cl dx) ∨ ∃ t, H a = some (exW a Cl dx t)
theorem ExcAt.inst (I : Inv X pins σ H s) (ea : ExcAt H a Cl dx) (ed : H dx = some (.xd [(f, v)])) :
    ∃ (oe od : Obj) (u : Value), PySem.W.InstAt s.heap a oe Cl (some od) ∧ RelV v u ∧ PySem.W.lookIn f od = some (some u) := by
  obtain ⟨oe, vs, ha, hz, hd⟩ : ∃ (oe : Obj) (vs : Array Value), s.heap.get? a = some oe ∧ Zc (.ref Cl) (some dx) oe ∧ oe.data = .fields vs := by
    rcases ea with e | ⟨t, e⟩
    · exact (I.hok a _ e).1
    · obtain ⟨oe, vs, h1, h2, h3, _⟩ := (I.hok a _ e).1
      exact ⟨oe, vs, h1, h2, h3⟩
  obtain ⟨mA, hns, hr⟩ := (show ObjOk X.prog X.w H s.heap dx (.xd [(f, v)]) from I.hok dx _ ed)
  obtain ⟨od, ho, hl⟩ := lookIn_ns hns
  obtain ⟨u, hu, ru⟩ := RelO.some_of (v := v) (o := mA f) (by have := hr f; simpa [List.lookup] using this)
  exact ⟨oe, od, u, ⟨ha, hz.1, by unfold PySem.W.notCls; rw [hd] <;> rfl, by rw [hz.2]; exact ho⟩, ru, by rw [hl, hu]⟩
end
theorem exc_rd {cls : Cls} {Z H : Hp} {P : Addr → Prop} {x : V} {m : M} {c : Str} {d : PyData} (hs : Sub Z H) (r : RM cls Z H P x m) (h : m.exc? = some (c, d)) :
    ∃ (a cl dx : Addr) (f : Str) (y : V), x = .ref a ∧ cls.f c = some (cl, f) ∧ ExcAt H a cl dx ∧ H dx = some (.xd [(f, y)]) ∧ RD cls Z y d := by
  unfold M.exc? at h
  split at h
  · cases h
    cases (show RD cls Z x _ from r) with
    | exc h1 h2 h3 h4 => exact ⟨_, _, _, _, _, rfl, h1, .inl (hs _ _ h2), hs _ _ h3, h4⟩
  · cases h
    cases (show RD cls Z x _ from r) with
    | exm h1 h2 h3 h4 h5 => exact ⟨_, _, _, _, _, rfl, h1, .inr ⟨_, hs _ _ h2⟩, hs _ _ h4, h5⟩
  · cases h
section
variable {X : Cx} {e : Expr} {te : TE} {f : Str} {pos : Pos}
def tAt (K : PySem.W.Frag) (f : Str) (te : TE) : TE := fun σ H Q => te σ H fun x H1 => ∃ (a C dx : Addr) (v : V), x = .ref a ∧ ExcAt H1 a C dx ∧ H1 dx = some (.xd [(f, v)]) ∧ XR K C f ∧ Q v H1
theorem pe_at (he : PE X e te) (hb : attributeBase e f X.env (eval e X.env) = eval e X.env := by rfl) : PE X (.Attribute e f pos) (tAt X.K f te) := by
  refine ⟨fun pins s σ H Q I h => attr_of hb (thn (he.run pins s σ H _ I h) fun u s1 hh => ?_)⟩
  obtain ⟨x, H1, I1, rx, a, C, dx, v, rfl, ea, ed, T, q⟩ := hh
  obtain rfl : u = Value.ref a := rx
  obtain ⟨oe, od, u, J, ru, hl⟩ := ea.inst I1 ed
  exact HandSPX.exc_get I1.kIn J T.hg T.hk T.hs (PySem.W.findObj_own T.hd T.no rfl hl) (handed_of ru) ⟨v, H1, I1.tok _, ru, q⟩
def rIE (K : PySem.W.Frag) (cv : Value) : List V → Hp → VK → Prop := fun xs H Q => ∃ (c : V) (a C dx : Addr) (f : Str) (v : V) (b : Bool), xs = [.ref a, c] ∧ (∀ u, RelV c u → u = cv) ∧ ExcAt H a C dx ∧ H dx = some (.xd [(f, v)]) ∧ XR K C f ∧ PySem.W.kitOne K (.ref C) cv = some b ∧ Q (.bl b) H
theorem cr_ie {cv : Value} : CallR X (.builtin "isinstance") (rIE X.K cv) := by
  intro pins s σ H xs us Q I r h
  obtain ⟨c, a, C, dx, f, v, b, rfl, hcv, ea, ed, T, e, q⟩ := h
  obtain ⟨u1, u2, rfl, r1, r2⟩ := vals2 r
  obtain rfl : u1 = Value.ref a := r1
  have ec := hcv _ r2
  subst ec
  obtain ⟨oe, od, u, J, ru, hl⟩ := ea.inst I ed
  obtain ⟨cd, hc, _⟩ := PySem.W.any_some T.hd
  exact PySem.W.kia_one (PySem.W.kitx_exc (by rw [hc]; rfl) T.hg T.hk T.hs T.ha T.hn T.ht T.hm) I.kIn J e (fun z => nomatch z) fun tk => ⟨.bl b, H, I.tok tk, rfl, q⟩
end
section
variable {X : Cx} {C : Base} {W : WX} {e : Expr} {g : JF} {p p1 pos : Pos}
theorem je_att {fs : Str → Option Str} {f : Str} (hc : ∀ c cl f', C.cls.f c = some (cl, f') → fs c = some f' ∧ XR X.K cl f') (he : JE X C W e g) (hb : attributeBase e f X.env (eval e X.env) = eval e X.env := by rfl) : JE X C W (.Attribute e f pos) (jUn (mAtt fs f) g) := by
  refine PE.imp (pe_at he hb) fun σ H Q k => ?_
  refine tJ_un (r := fun x H1 Q => ∃ (a Cl dx : Addr) (v : V), x = .ref a ∧ ExcAt H1 a Cl dx ∧ H1 dx = some (.xd [(f, v)]) ∧ XR X.K Cl f ∧ Q v H1) (fun Z H x a m P Q hs r1 h q => ?_) k
  unfold mAtt at h
  split at h
  · rename_i c d hm
    split at h
    · rename_i hf
      cases h
      obtain ⟨a0, cl, dx, f0, y, rfl, h1, h2, h3, h4⟩ := exc_rd hs r1 hm
      obtain ⟨e1, e2⟩ := hc _ _ _ h1
      rw [hf] at e1
      cases e1
      exact ⟨_, _, _, y, rfl, h2, h3, e2, give_v hs h4 q⟩
    · cases h
  · cases h
theorem je_ise {x : Str} {cv : Value} {c : V} {pr : Str → Bool} (hx : PE X (.Name x p1) (tC c)) (hcv : ∀ u, RelV c u → u = cv) (hc : ∀ c cl f', C.cls.f c = some (cl, f') → XR X.K cl f' ∧ PySem.W.kitOne X.K (.ref cl) cv = some (pr c)) (ha : JE X C W e g) (hg : Gl X "isinstance") (hm : X.mg "isinstance" = none)
    (he : starEach [e, .Name x p1] X.env = (false, eval e X.env) :: starEach [.Name x p1] X.env := by rfl) (hpl : (backTo pos (starEach [.Name x p1] X.env)).any (·.1) = false := by rfl) :
    JE X C W (.Call (.Name "isinstance" p) [e, .Name x p1] [] pos) (jUn (mIsE pr) g) := by
  refine PE.imp (pe_callB (cr_ie (cv := cv)) hg hm (by decide +kernel) (pa_cons ha (pa_cons hx pa_nil) he) (by decide) (by decide) he hpl) fun σ H Q k => ?_
  have := tJ_un (C := C) (W := W) (f := g) (F := mIsE pr) (r := fun x H Q => ∃ (a Cl dx : Addr) (f : Str) (v : V) (b : Bool), x = .ref a ∧ ExcAt H a Cl dx ∧ H dx = some (.xd [(f, v)]) ∧ XR X.K Cl f ∧ PySem.W.kitOne X.K (.ref Cl) cv = some b ∧ Q (.bl b) H) (fun Z H x a m P Q hs r1 h q => by
    unfold mIsE at h
    cases hm : a.exc? with
    | none => rw [hm] at h; cases h
    | some cd =>
      obtain ⟨c', d⟩ := cd
      rw [hm] at h
      cases h
      obtain ⟨a0, cl, dx, f0, y, rfl, h1, h2, h3, h4⟩ := exc_rd hs r1 hm
      obtain ⟨e1, e2⟩ := hc _ _ _ h1
      exact ⟨_, _, _, _, y, _, rfl, h2, h3, e1, e2, give_bool hs q⟩) k
  obtain ⟨Zb, Z, o, ρ, T', w, k⟩ := this
  refine ⟨Zb, Z, o, ρ, T', w, ?_⟩
  cases hf : g ρ with
  | stuck => rw [hf] at k; exact k
  | exc c d ρ1 => rw [hf] at k; exact k
  | ok s ρ1 =>
    rw [hf] at k
    intro Z1 H1 o1 v T1 w1 a1
    obtain ⟨a, Cl, dx, f, y, b, rfl, h⟩ := k Z1 H1 o1 v T1 w1 a1
    exact ⟨c, a, Cl, dx, f, y, b, rfl, hcv, h⟩
end

/-! ### str -/
def intStr (i : Int) : Str := toString i
def mStrI : List M → Option M
  | [.v (.int i)] => if i.natAbs.log2 < 1920 then some (.v (.str (intStr i))) else none
  | _ => none
theorem cs_strI {cls : Cls} : CallS cls (fun xs H Q => ∃ i, xs = [.int i] ∧ i.natAbs.log2 < 1920 ∧ Q (.str (toString i)) H) mStrI := by
  intro Z H vs ms m Q hs r h q
  unfold mStrI at h
  split at h
  · rename_i i
    split at h
    · rename_i hz
      cases h
      obtain ⟨v, P, rfl, r1⟩ := r.one
      obtain rfl := rd_int r1
      exact ⟨i, rfl, hz, give_str hs q⟩
    · cases h
  · cases h
def rStrA (K : PySem.W.Frag) : List V → Hp → VK → Prop := fun xs H Q => (∃ i, xs = [.int i] ∧ i.natAbs.log2 < 1920 ∧ Q (.str (toString i)) H) ∨ (∃ z, xs = [.str z] ∧ Q (.str z) H) ∨
  ∃ (a C dx t : Addr) (msg : Str), xs = [.ref a] ∧ H a = some (exW a C dx t) ∧ H t = some (.tup [.str msg]) ∧ PySem.W.findIn K (.ref C) "__str__" = some (some (.builtin "BaseException.__str__")) ∧ PySem.W.subIn K (.ref C) (.type "BaseException") = some true ∧ Q (.str msg) H
theorem call_strA {X : Cx} (hu : X.A.units + 2 < cLine) : CallR X (.type "str") (rStrA X.K) := by
  intro pins s σ H xs us Q I r h
  rcases h with h | ⟨z, rfl, q⟩ | ⟨a, C, dx, t, msg, rfl, ea, et, hs, hB, q⟩
  · exact call_str_int pins s σ H xs us Q I r h
  · obtain ⟨u, rfl, tk, rfl⟩ := vals1 r
    exact PySem.P.str_of_str (show EP X pins σ Q (.str z tk) s from ⟨.str z, H, I, ⟨_, rfl⟩, q⟩)
  · obtain ⟨u, rfl, r1⟩ := vals1 r
    obtain rfl : u = Value.ref a := r1
    obtain ⟨oe, vs, h1, h2, h3, h4⟩ := (I.hok a _ ea).1
    obtain ⟨_, its, rv, ot, h5, h6, n, h7⟩ := (show ObjOk X.prog X.w H s.heap t (.tup [.str msg]) from I.hok t _ et)
    cases rv with
    | @cons _ u1 _ ur r1 rr =>
      cases rr
      obtain ⟨tk, rfl⟩ := r1
      exact PySem.P.str_of_C_one hu ⟨I.kIn, oe, vs, h1, h2.1, h3, h4⟩ ⟨ot, n, h5, h6, h7⟩ hs hB (show EP X pins σ Q (.str msg tk) s from ⟨.str msg, H, I, ⟨_, rfl⟩, q⟩)
def mStr : List M → Option M
  | [.v (.int i)] => if i.natAbs.log2 < 1920 then some (.v (.str (intStr i))) else none
  | [.v (.str z)] => some (.v (.str z))
  | [.v (.dict [(.str _, _), (.str msg, .none)])] => some (.v (.str msg))
  | _ => none
theorem cs_str {cls : Cls} {K : PySem.W.Frag} (hc : ∀ c cl f', cls.f c = some (cl, f') → PySem.W.findIn K (.ref cl) "__str__" = some (some (.builtin "BaseException.__str__")) ∧ PySem.W.subIn K (.ref cl) (.type "BaseException") = some true) : CallS cls (rStrA K) mStr := by
  intro Z H vs ms m Q hs r h q
  unfold mStr at h
  split at h
  · rename_i i
    split at h
    · rename_i hz
      cases h
      obtain ⟨v, P, rfl, r1⟩ := r.one
      obtain rfl := rd_int r1
      exact .inl ⟨i, rfl, hz, give_str hs q⟩
    · cases h
  · cases h
    obtain ⟨v, P, rfl, r1⟩ := r.one
    obtain rfl := rd_str r1
    exact .inr (.inl ⟨_, rfl, give_str hs q⟩)
  · rename_i c d msg
    cases h
    obtain ⟨v, P, rfl, r1⟩ := r.one
    cases (show RD cls Z v (.dict [(.str c, d), (.str msg, .none)]) from r1) with
    | exm h1 h2 h3 h4 h5 =>
      obtain ⟨e1, e2⟩ := hc _ _ _ h1
      exact .inr (.inr ⟨_, _, _, _, _, rfl, hs _ _ h2, hs _ _ h3, e1, e2, give_str hs q⟩)
  · cases h

/-! ### a text within a text -/
def inStr (i j : Str) : Bool := !(Builtin.Str.occurrences j i 0 j.length 1).isEmpty
def mInY (neg : Bool) (a b : M) : Option M := match a, b with
  | .v (.str i), .v (.str j) => some (.v (.bool (if neg then !inStr i j else inStr i j)))
  | _, _ => mInX neg a b
def rInY (K : PySem.W.Frag) (neg : Bool) : R2 := fun x y H Q => rInX K neg x y H Q ∨ ∃ i j, x = .str i ∧ y = .str j ∧ Q (.bl (if neg then !inStr i j else inStr i j)) H
section
variable {X : Cx} {cls : Cls}
theorem op_inY (hu : X.A.units + 65 < cLine) : OpR X (compareOp .In) (rInY X.K false) := (op_inX hu).or op_in_str
theorem op_notInY (hu : X.A.units + 65 < cLine) : OpR X (compareOp .NotIn) (rInY X.K true) := (op_notInX hu).or op_notin_str
theorem os_inY {K : PySem.W.Frag} {neg : Bool} : OpS cls (rInY K neg) (mInY neg) := by
  intro Z H x y a b m P P' Q hs r1 r2 h q
  unfold mInY at h
  split at h
  · cases h
    exact .inr ⟨_, _, rd_str r1, rd_str r2, give_bool hs q⟩
  · exact .inl (os_inX Z H x y a b m P P' Q hs r1 r2 h q)
end
end FW
end

section
set_option Elab.async false
set_option linter.all false
set_option maxRecDepth 100000
set_option autoImplicit false
/-! FW24: small helps for printed proofs. -/
namespace FW
open PySem PySem.Spec PyProof.Rows L2
section
variable {K : PySem.W.Frag} {F : Addr} {L : List EC}
theorem ECs.strs (h : ECs K F L) (st : ∀ e ∈ L, PySem.W.findIn K (.ref e.a) "__str__" = some (some (.builtin "BaseException.__str__"))) : ∀ c cl f', clF L c = some (cl, f') → PySem.W.findIn K (.ref cl) "__str__" = some (some (.builtin "BaseException.__str__")) ∧ PySem.W.subIn K (.ref cl) (.type "BaseException") = some true := fun c cl f x => by
  obtain ⟨e, h1, _, rfl, _⟩ := clF_mem x
  exact ⟨st e h1, (h.ok e h1).xr.hs⟩
end
end FW
end

section
set_option Elab.async false
set_option linter.all false
set_option maxRecDepth 100000
set_option autoImplicit false
namespace FW
open PySem PySem.Spec PyProof.Rows L2
section
variable {P : Program} {w : World} {K : PySem.W.Frag} {mg : Str → Option Value} {base : Heap} {F : Addr} {e : EC} {qual v b msg : Str} {params : Arguments} {body : List Stmt} {scope : Scope} {dvs : List V} {fI : Addr} {fd : FuncData} {k : Nat}
/-- the class with a text of its own, its default None -/
theorem xm_d (hE : ECok K F e) (hF : FunD K "__init__" qual params body scope [.non] [] fI fd) (iC : PySem.W.findIn K (.ref e.a) "__init__" = some (some (.ref fI))) (tI : PySem.W.typeIn K (.ref fI) = some (.type "function"))
    (S : FnScope ["self", v] ["self", v] scope) (hb : InitB scope b msg e.f v body) (hB : BaseOk K mg F b e.k) (hgl : scope.names.lookup b = some .globalImplicit) (hdb : (b == ("__debug__" : Str)) = false)
    (hself : Vis scope "self") (hv : Vis scope v) (hvd : (v == ("__debug__" : Str)) = false) (hvc : (v == ("__classdict__" : Str)) = false)
    (h1 : ∀ (T : Addr) (kV doc pm : Value) (an : Option Addr) (cdv ct a u d : Value), ∃ k, bindArgs (PySem.W.fnOf "__init__" qual params body scope (.ref T) kV doc pm an cdv ct) ⟨[a, u], []⟩ = seqItems? (.ref T) >>= k ∧ k (some #[d]) = pure ((["self", v] : List Str).zip [a, u]))
    (h2 : ∀ (T : Addr) (kV doc pm : Value) (an : Option Addr) (cdv ct a u d : Value), ∃ k, bindArgs (PySem.W.fnOf "__init__" qual params body scope (.ref T) kV doc pm an cdv ct) ⟨[a], [(v, u)]⟩ = seqItems? (.ref T) >>= k ∧ k (some #[d]) = pure ((["self", v] : List Str).zip [a, u]))
    (h3 : ∀ (T : Addr) (kV doc pm : Value) (an : Option Addr) (cdv ct a d : Value), ∃ k, bindArgs (PySem.W.fnOf "__init__" qual params body scope (.ref T) kV doc pm an cdv ct) ⟨[a], []⟩ = seqItems? (.ref T) >>= k ∧ k (some #[d]) = pure ((["self", v] : List Str).zip [a, d]))
    (g : mg e.n = some (.ref e.a)) : XM P w K mg base e.n e.f v msg true e.a := by
  have hf : FnOk P w K mg base C8.CX0 2 fI fd ["self", v] (spM e.a e.f msg) := mi_fn (k := 1) hE hF S hb hB hgl hdb hself hv hvd hvc
  obtain ⟨oc, od, dV, kV, doc, pm, an, cdv, ct, osl, efd, lk, hcd, hD, hK⟩ := id hF.ex
  rcases hD with ⟨z, _⟩ | ⟨_, T, o, its, m, eT, lT, oT, rT⟩
  · cases z
  · obtain ⟨d, rfl, rd⟩ : ∃ d, its = [d] ∧ RelV .non d := by
      have := rT.length
      rcases its with _ | ⟨d, _ | ⟨z, its⟩⟩ <;> simp at this
      exact ⟨d, rfl, by cases rT; assumption⟩
    have ed : d = .none := rd
    subst ed
    refine ⟨⟨_, _, _, _, fI, fd, hE.xc, iC, tI, hf, binds_d hF h1, fun s a u X => ?_, fun _ s a X => ?_⟩, g⟩
    · obtain ⟨k, e1, e2⟩ := h2 T kV doc pm an cdv ct (.ref a) u .none
      refine BindsTo.of_looks fun M => ?_
      rw [efd, eT, e1]
      exact looks_items X lT oT (.of_pure e2)
    · obtain ⟨k, e1, e2⟩ := h3 T kV doc pm an cdv ct (.ref a) .none
      refine BindsTo.of_looks fun M => ?_
      rw [efd, eT, e1]
      exact looks_items X lT oT (.of_pure e2)
/-- the class whose text takes its value always -/
theorem xm_0 (hE : ECok K F e) (hF : FunD K "__init__" qual params body scope [] [] fI fd) (iC : PySem.W.findIn K (.ref e.a) "__init__" = some (some (.ref fI))) (tI : PySem.W.typeIn K (.ref fI) = some (.type "function"))
    (S : FnScope ["self", v] ["self", v] scope) (hb : InitB scope b msg e.f v body) (hB : BaseOk K mg F b e.k) (hgl : scope.names.lookup b = some .globalImplicit) (hdb : (b == ("__debug__" : Str)) = false)
    (hself : Vis scope "self") (hv : Vis scope v) (hvd : (v == ("__debug__" : Str)) = false) (hvc : (v == ("__classdict__" : Str)) = false)
    (h1 : ∀ (kV doc pm : Value) (an : Option Addr) (cdv ct a u : Value), bindArgs (PySem.W.fnOf "__init__" qual params body scope .none kV doc pm an cdv ct) ⟨[a, u], []⟩ = pure ((["self", v] : List Str).zip [a, u]))
    (h2 : ∀ (kV doc pm : Value) (an : Option Addr) (cdv ct a u : Value), bindArgs (PySem.W.fnOf "__init__" qual params body scope .none kV doc pm an cdv ct) ⟨[a], [(v, u)]⟩ = pure ((["self", v] : List Str).zip [a, u]))
    (g : mg e.n = some (.ref e.a)) : XM P w K mg base e.n e.f v msg false e.a := by
  have hf : FnOk P w K mg base C8.CX0 2 fI fd ["self", v] (spM e.a e.f msg) := mi_fn (k := 1) hE hF S hb hB hgl hdb hself hv hvd hvc
  obtain ⟨oc, od, dV, kV, doc, pm, an, cdv, ct, osl, efd, lk, hcd, hD, hK⟩ := id hF.ex
  rcases hD with ⟨_, eT⟩ | ⟨z, _⟩
  · refine ⟨⟨_, _, _, _, fI, fd, hE.xc, iC, tI, hf, binds_0 hF h1, fun s a u X => ?_, fun z => by cases z⟩, g⟩
    rw [efd, eT]
    exact .of_eq (h2 kV doc pm an cdv ct (.ref a) u)
  · exact absurd rfl z
end
end FW
end

section
set_option Elab.async false
set_option linter.all false
set_option maxRecDepth 100000
set_option maxHeartbeats 4000000
namespace K99
open PySem PySem.Spec PyProof.Rows L2 FW

def topS (i : Nat) : Stmt := PySem.Challenge.pw_drawnflat_k99_errors_by_hand.main.body.getD i (.Pass ⟨0, 0, 0, 0⟩)

abbrev s__law_draw : Stmt := topS 24

abbrev s__law_mixed : Stmt := topS 23

abbrev s__law_digit : Stmt := topS 25

abbrev s__law_valued : Stmt := topS 27

abbrev s__law_placed : Stmt := topS 28

abbrev s__law_kinds : Stmt := topS 26

abbrev s__law_right : Stmt := topS 29

abbrev s_law : Stmt := topS 30

abbrev s_BadNumber : Stmt := topS 2

abbrev s_BadPoint : Stmt := topS 3

abbrev s_BadLine : Stmt := topS 4

abbrev s_BadFace : Stmt := topS 5

abbrev s_BadWeb : Stmt := topS 6

abbrev s_BadDrawing : Stmt := topS 7

abbrev s_BadColours : Stmt := topS 8

abbrev s_BadTree : Stmt := topS 9

abbrev s_BadGrid : Stmt := topS 10

abbrev s_BadBody : Stmt := topS 11

abbrev s_BadOrder : Stmt := topS 12

abbrev s_BadPlan : Stmt := topS 13

abbrev s_BadBars : Stmt := topS 14

abbrev s_BadSurface : Stmt := topS 15

abbrev s_BadMap : Stmt := topS 16

abbrev s_BadText : Stmt := topS 17

abbrev s_BadPaper : Stmt := topS 18

abbrev s_BadDeed : Stmt := topS 19

abbrev s_TooMany : Stmt := topS 20

abbrev s_NoSuch : Stmt := topS 21

/-- where all stands -/
structure Ad where
  F : Addr
  c_BadNumber : Addr
  c_BadPoint : Addr
  c_BadLine : Addr
  c_BadFace : Addr
  c_BadWeb : Addr
  c_BadDrawing : Addr
  c_BadColours : Addr
  c_BadTree : Addr
  c_BadGrid : Addr
  c_BadBody : Addr
  c_BadOrder : Addr
  c_BadPlan : Addr
  c_BadBars : Addr
  c_BadSurface : Addr
  c_BadMap : Addr
  c_BadText : Addr
  c_BadPaper : Addr
  c_BadDeed : Addr
  c_TooMany : Addr
  c_NoSuch : Addr
  f__law_draw : Addr
  d__law_draw : FuncData
  f__law_mixed : Addr
  d__law_mixed : FuncData
  f__law_digit : Addr
  d__law_digit : FuncData
  f__law_valued : Addr
  d__law_valued : FuncData
  f__law_placed : Addr
  d__law_placed : FuncData
  f__law_kinds : Addr
  d__law_kinds : FuncData
  f__law_right : Addr
  d__law_right : FuncData
  f_law : Addr
  d_law : FuncData

def ex_BadNumber (A : Ad) : EC := ⟨"BadNumber", A.c_BadNumber, "value", 0⟩

def ex_BadPoint (A : Ad) : EC := ⟨"BadPoint", A.c_BadPoint, "value", 0⟩

def ex_BadLine (A : Ad) : EC := ⟨"BadLine", A.c_BadLine, "value", 0⟩

def ex_BadFace (A : Ad) : EC := ⟨"BadFace", A.c_BadFace, "value", 0⟩

def ex_BadWeb (A : Ad) : EC := ⟨"BadWeb", A.c_BadWeb, "place", 0⟩

def ex_BadDrawing (A : Ad) : EC := ⟨"BadDrawing", A.c_BadDrawing, "place", 0⟩

def ex_BadColours (A : Ad) : EC := ⟨"BadColours", A.c_BadColours, "place", 0⟩

def ex_BadTree (A : Ad) : EC := ⟨"BadTree", A.c_BadTree, "place", 0⟩

def ex_BadGrid (A : Ad) : EC := ⟨"BadGrid", A.c_BadGrid, "place", 0⟩

def ex_BadBody (A : Ad) : EC := ⟨"BadBody", A.c_BadBody, "place", 0⟩

def ex_BadOrder (A : Ad) : EC := ⟨"BadOrder", A.c_BadOrder, "place", 0⟩

def ex_BadPlan (A : Ad) : EC := ⟨"BadPlan", A.c_BadPlan, "place", 0⟩

def ex_BadBars (A : Ad) : EC := ⟨"BadBars", A.c_BadBars, "place", 0⟩

def ex_BadSurface (A : Ad) : EC := ⟨"BadSurface", A.c_BadSurface, "place", 0⟩

def ex_BadMap (A : Ad) : EC := ⟨"BadMap", A.c_BadMap, "place", 0⟩

def ex_BadText (A : Ad) : EC := ⟨"BadText", A.c_BadText, "place", 0⟩

def ex_BadPaper (A : Ad) : EC := ⟨"BadPaper", A.c_BadPaper, "place", 0⟩

def ex_BadDeed (A : Ad) : EC := ⟨"BadDeed", A.c_BadDeed, "place", 0⟩

def ex_TooMany (A : Ad) : EC := ⟨"TooMany", A.c_TooMany, "most", 1⟩

def ex_NoSuch (A : Ad) : EC := ⟨"NoSuch", A.c_NoSuch, "value", 2⟩

def exL (A : Ad) : List EC := [ex_BadNumber A, ex_BadPoint A, ex_BadLine A, ex_BadFace A, ex_BadWeb A, ex_BadDrawing A, ex_BadColours A, ex_BadTree A, ex_BadGrid A, ex_BadBody A, ex_BadOrder A, ex_BadPlan A, ex_BadBars A, ex_BadSurface A, ex_BadMap A, ex_BadText A, ex_BadPaper A, ex_BadDeed A, ex_TooMany A, ex_NoSuch A]

def exN : List (Str × Str × Nat) := [("BadNumber", "value", 0), ("BadPoint", "value", 0), ("BadLine", "value", 0), ("BadFace", "value", 0), ("BadWeb", "place", 0), ("BadDrawing", "place", 0), ("BadColours", "place", 0), ("BadTree", "place", 0), ("BadGrid", "place", 0), ("BadBody", "place", 0), ("BadOrder", "place", 0), ("BadPlan", "place", 0), ("BadBars", "place", 0), ("BadSurface", "place", 0), ("BadMap", "place", 0), ("BadText", "place", 0), ("BadPaper", "place", 0), ("BadDeed", "place", 0), ("TooMany", "most", 1), ("NoSuch", "value", 2)]

theorem exNd {A : Ad} : ((exL A).map (·.n)).Nodup := by
  show (["BadNumber", "BadPoint", "BadLine", "BadFace", "BadWeb", "BadDrawing", "BadColours", "BadTree", "BadGrid", "BadBody", "BadOrder", "BadPlan", "BadBars", "BadSurface", "BadMap", "BadText", "BadPaper", "BadDeed", "TooMany", "NoSuch"] : List Str).Nodup
  decide +kernel

def cls (K : PySem.W.Frag) (A : Ad) : Cls := ⟨clF (exL A), K⟩

structure Tx (P : Program) (w : World) (K : PySem.W.Frag) (mg : Str → Option Value) (base : Heap) (A : Ad) : Prop where
  E : ECs K A.F (exL A)
  gF : mg "FlatError" = some (.ref A.F)
  m_BadNumber : XM P w K mg base "BadNumber" "value" "value" "no such number" true A.c_BadNumber
  m_BadPoint : XM P w K mg base "BadPoint" "value" "value" "no such point" true A.c_BadPoint
  m_BadLine : XM P w K mg base "BadLine" "value" "value" "no such line" true A.c_BadLine
  m_BadFace : XM P w K mg base "BadFace" "value" "value" "no such face" true A.c_BadFace
  m_BadWeb : XM P w K mg base "BadWeb" "place" "place" "no such web" true A.c_BadWeb
  m_BadDrawing : XM P w K mg base "BadDrawing" "place" "place" "no such drawing" true A.c_BadDrawing
  m_BadColours : XM P w K mg base "BadColours" "place" "place" "no such colours" true A.c_BadColours
  m_BadTree : XM P w K mg base "BadTree" "place" "place" "no such tree" true A.c_BadTree
  m_BadGrid : XM P w K mg base "BadGrid" "place" "place" "no such grid" true A.c_BadGrid
  m_BadBody : XM P w K mg base "BadBody" "place" "place" "no such body" true A.c_BadBody
  m_BadOrder : XM P w K mg base "BadOrder" "place" "place" "no such order" true A.c_BadOrder
  m_BadPlan : XM P w K mg base "BadPlan" "place" "place" "no such plan" true A.c_BadPlan
  m_BadBars : XM P w K mg base "BadBars" "place" "place" "no such bars" true A.c_BadBars
  m_BadSurface : XM P w K mg base "BadSurface" "place" "place" "no such surface" true A.c_BadSurface
  m_BadMap : XM P w K mg base "BadMap" "place" "place" "no such permutation" true A.c_BadMap
  m_BadText : XM P w K mg base "BadText" "place" "place" "no such text" true A.c_BadText
  m_BadPaper : XM P w K mg base "BadPaper" "place" "place" "no such paper" true A.c_BadPaper
  m_BadDeed : XM P w K mg base "BadDeed" "place" "place" "no such deed" true A.c_BadDeed
  m_TooMany : XM P w K mg base "TooMany" "most" "most" "too many" false A.c_TooMany
  m_NoSuch : XM P w K mg base "NoSuch" "value" "value" "nothing so called" true A.c_NoSuch
  q_BadNumber : mg "BadNumber" = some (.ref A.c_BadNumber)
  q_BadPoint : mg "BadPoint" = some (.ref A.c_BadPoint)
  q_BadLine : mg "BadLine" = some (.ref A.c_BadLine)
  q_BadFace : mg "BadFace" = some (.ref A.c_BadFace)
  q_BadWeb : mg "BadWeb" = some (.ref A.c_BadWeb)
  q_BadDrawing : mg "BadDrawing" = some (.ref A.c_BadDrawing)
  q_BadColours : mg "BadColours" = some (.ref A.c_BadColours)
  q_BadTree : mg "BadTree" = some (.ref A.c_BadTree)
  q_BadGrid : mg "BadGrid" = some (.ref A.c_BadGrid)
  q_BadBody : mg "BadBody" = some (.ref A.c_BadBody)
  q_BadOrder : mg "BadOrder" = some (.ref A.c_BadOrder)
  q_BadPlan : mg "BadPlan" = some (.ref A.c_BadPlan)
  q_BadBars : mg "BadBars" = some (.ref A.c_BadBars)
  q_BadSurface : mg "BadSurface" = some (.ref A.c_BadSurface)
  q_BadMap : mg "BadMap" = some (.ref A.c_BadMap)
  q_BadText : mg "BadText" = some (.ref A.c_BadText)
  q_BadPaper : mg "BadPaper" = some (.ref A.c_BadPaper)
  q_BadDeed : mg "BadDeed" = some (.ref A.c_BadDeed)
  q_TooMany : mg "TooMany" = some (.ref A.c_TooMany)
  q_NoSuch : mg "NoSuch" = some (.ref A.c_NoSuch)
  st : ∀ e ∈ exL A, PySem.W.findIn K (.ref e.a) "__str__" = some (some (.builtin "BaseException.__str__"))
  f__law_draw : Fun K "_law_draw" "_law_draw" s__law_draw A.f__law_draw A.d__law_draw
  f__law_mixed : Fun K "_law_mixed" "_law_mixed" s__law_mixed A.f__law_mixed A.d__law_mixed
  f__law_digit : Fun K "_law_digit" "_law_digit" s__law_digit A.f__law_digit A.d__law_digit
  f__law_valued : Fun K "_law_valued" "_law_valued" s__law_valued A.f__law_valued A.d__law_valued
  f__law_placed : Fun K "_law_placed" "_law_placed" s__law_placed A.f__law_placed A.d__law_placed
  f__law_kinds : Fun K "_law_kinds" "_law_kinds" s__law_kinds A.f__law_kinds A.d__law_kinds
  f__law_right : Fun K "_law_right" "_law_right" s__law_right A.f__law_right A.d__law_right
  f_law : Fun K "law" "law" s_law A.f_law A.d_law
  g__law_draw : mg "_law_draw" = some (.ref A.f__law_draw)
  b__law_draw : Binds K A.d__law_draw ["cell", "k"] []
  g__law_mixed : mg "_law_mixed" = some (.ref A.f__law_mixed)
  b__law_mixed : Binds K A.d__law_mixed ["cell", "k"] []
  g__law_digit : mg "_law_digit" = some (.ref A.f__law_digit)
  b__law_digit : Binds K A.d__law_digit ["state", "below"] []
  g__law_valued : mg "_law_valued" = some (.ref A.f__law_valued)
  b__law_valued : Binds K A.d__law_valued ["thing"] []
  g__law_placed : mg "_law_placed" = some (.ref A.f__law_placed)
  b__law_placed : Binds K A.d__law_placed ["thing"] []
  g__law_kinds : mg "_law_kinds" = some (.ref A.f__law_kinds)
  b__law_kinds : Binds K A.d__law_kinds ["e"] []
  g__law_right : mg "_law_right" = some (.ref A.f__law_right)
  b__law_right : Binds K A.d__law_right ["thing"] []
  g_law : mg "law" = some (.ref A.f_law)
  b_law : Binds K A.d_law ["script"] []
  z_LookupError : mg "LookupError" = none
  z_OverflowError : mg "OverflowError" = none
  z_ValueError : mg "ValueError" = none
  z_enumerate : mg "enumerate" = none
  z_isinstance : mg "isinstance" = none
  z_range : mg "range" = none
  z_str : mg "str" = none
  z_sum : mg "sum" = none

def g__law_draw : SF := (sRt (jDisp [.inr "left", .inr "cell", .inr "turns"] (aCons (jFrz (jIf (tBo (jBin mGe (jVar 0) (jBin mPow (jC (.int 10)) (jC (.int 18))))) (jVar 0) (jC (.int 0)))) (aCons (jFrz (jVar 0)) (aCons (jFrz (jBin mMul (jC (.int 1000)) (jVar 1))) aNil)))))
def F__law_draw : FF := fnF g__law_draw [0, 1] 2 2

def g__law_mixed : SF := (sSeq (sSet 2 (jBin mAdd (jBin mAdd (jBin mMod (jVar 0) (jBin mIxA (jCall mLst (aCons (jC (.int 1000000007)) (aCons (jC (.int 998244353)) (aCons (jC (.int 2147483629)) (aCons (jC (.int 1000000009)) aNil))))) (jBin mMod (jVar 1) (jC (.int 4))))) (jBin mMul (jC (.int 7919)) (jVar 1))) (jC (.int 13))))
  (sRt (jBin mMod (jBin mMul (jBin mMod (jBin mMul (jVar 2) (jVar 2)) (jC (.int 2147483647))) (jC (.int 48271))) (jC (.int 2147483647)))))
def F__law_mixed : FF := fnF g__law_mixed [0, 1] 3 2

def g__law_digit : SF := (sSeq (sIf (tBo (jBin mEq (jBin mIxA (jVar 0) (jC (.str "left"))) (jC (.int 0))))
  (sFor (iFrom rng1 (aCons (jC (.int 4)) aNil)) (gN 3)
  (sSeq (sPut 0 (jBin mAdd (jBin mIxA (jVar 0) (jC (.str "turns"))) (jC (.int 1))) (jC (.str "turns")))
  (sPut 0 (jBin mAdd (jBin mMul (jBin mIxA (jVar 0) (jC (.str "left"))) (jC (.int 2147483647))) (jFn F__law_mixed (aCons (jArg (jBin mIxA (jVar 0) (jC (.str "cell")))) (aCons (jArg (jBin mIxA (jVar 0) (jC (.str "turns")))) aNil)))) (jC (.str "left")))))
  sNx)
  (sSeq (sSet 2 (jBin mMod (jBin mIxA (jVar 0) (jC (.str "left"))) (jVar 1)))
  (sSeq (sPut 0 (jBin mDiv (jBin mIxA (jVar 0) (jC (.str "left"))) (jVar 1)) (jC (.str "left")))
  (sRt (jTk (jVar 2))))))
def F__law_digit : FF := fnF g__law_digit [0, 1] 4 2

def g__law_valued : SF := (sSeq (sSet 1 (jCall mLst (aCons (jFrz (jCall mTup (aCons (jFrz (jM "BadNumber" "no such number" (aCons (jFrz (jVar 0)) aNil))) (aCons (jFrz (jM "BadNumber" "no such number" (aCons (jFrz (jVar 0)) aNil))) (aCons (jC (.str "BadNumber")) aNil))))) aNil)))
  (sSeq (sSet 1 (jBin mAdd (jVar 1) (jCall mLst (aCons (jFrz (jCall mTup (aCons (jFrz (jM "BadPoint" "no such point" (aCons (jFrz (jVar 0)) aNil))) (aCons (jFrz (jM "BadPoint" "no such point" (aCons (jFrz (jVar 0)) aNil))) (aCons (jC (.str "BadPoint")) aNil))))) aNil))))
  (sSeq (sSet 1 (jBin mAdd (jVar 1) (jCall mLst (aCons (jFrz (jCall mTup (aCons (jFrz (jM "BadLine" "no such line" (aCons (jFrz (jVar 0)) aNil))) (aCons (jFrz (jM "BadLine" "no such line" (aCons (jFrz (jVar 0)) aNil))) (aCons (jC (.str "BadLine")) aNil))))) aNil))))
  (sRt (jBin mAdd (jVar 1) (jCall mLst (aCons (jFrz (jCall mTup (aCons (jFrz (jM "BadFace" "no such face" (aCons (jFrz (jVar 0)) aNil))) (aCons (jFrz (jM "BadFace" "no such face" (aCons (jFrz (jVar 0)) aNil))) (aCons (jC (.str "BadFace")) aNil))))) aNil)))))))
def F__law_valued : FF := fnF g__law_valued [0] 2 1

def g__law_placed : SF := (sSeq (sSet 1 (jCall mLst (aCons (jFrz (jCall mTup (aCons (jFrz (jM "BadWeb" "no such web" (aCons (jFrz (jVar 0)) aNil))) (aCons (jFrz (jM "BadWeb" "no such web" (aCons (jFrz (jVar 0)) aNil))) (aCons (jC (.str "BadWeb")) aNil))))) aNil)))
  (sSeq (sSet 1 (jBin mAdd (jVar 1) (jCall mLst (aCons (jFrz (jCall mTup (aCons (jFrz (jM "BadDrawing" "no such drawing" (aCons (jFrz (jVar 0)) aNil))) (aCons (jFrz (jM "BadDrawing" "no such drawing" (aCons (jFrz (jVar 0)) aNil))) (aCons (jC (.str "BadDrawing")) aNil))))) aNil))))
  (sSeq (sSet 1 (jBin mAdd (jVar 1) (jCall mLst (aCons (jFrz (jCall mTup (aCons (jFrz (jM "BadColours" "no such colours" (aCons (jFrz (jVar 0)) aNil))) (aCons (jFrz (jM "BadColours" "no such colours" (aCons (jFrz (jVar 0)) aNil))) (aCons (jC (.str "BadColours")) aNil))))) aNil))))
  (sSeq (sSet 1 (jBin mAdd (jVar 1) (jCall mLst (aCons (jFrz (jCall mTup (aCons (jFrz (jM "BadTree" "no such tree" (aCons (jFrz (jVar 0)) aNil))) (aCons (jFrz (jM "BadTree" "no such tree" (aCons (jFrz (jVar 0)) aNil))) (aCons (jC (.str "BadTree")) aNil))))) aNil))))
  (sSeq (sSet 1 (jBin mAdd (jVar 1) (jCall mLst (aCons (jFrz (jCall mTup (aCons (jFrz (jM "BadGrid" "no such grid" (aCons (jFrz (jVar 0)) aNil))) (aCons (jFrz (jM "BadGrid" "no such grid" (aCons (jFrz (jVar 0)) aNil))) (aCons (jC (.str "BadGrid")) aNil))))) aNil))))
  (sSeq (sSet 1 (jBin mAdd (jVar 1) (jCall mLst (aCons (jFrz (jCall mTup (aCons (jFrz (jM "BadBody" "no such body" (aCons (jFrz (jVar 0)) aNil))) (aCons (jFrz (jM "BadBody" "no such body" (aCons (jFrz (jVar 0)) aNil))) (aCons (jC (.str "BadBody")) aNil))))) aNil))))
  (sSeq (sSet 1 (jBin mAdd (jVar 1) (jCall mLst (aCons (jFrz (jCall mTup (aCons (jFrz (jM "BadOrder" "no such order" (aCons (jFrz (jVar 0)) aNil))) (aCons (jFrz (jM "BadOrder" "no such order" (aCons (jFrz (jVar 0)) aNil))) (aCons (jC (.str "BadOrder")) aNil))))) aNil))))
  (sSeq (sSet 1 (jBin mAdd (jVar 1) (jCall mLst (aCons (jFrz (jCall mTup (aCons (jFrz (jM "BadPlan" "no such plan" (aCons (jFrz (jVar 0)) aNil))) (aCons (jFrz (jM "BadPlan" "no such plan" (aCons (jFrz (jVar 0)) aNil))) (aCons (jC (.str "BadPlan")) aNil))))) aNil))))
  (sSeq (sSet 1 (jBin mAdd (jVar 1) (jCall mLst (aCons (jFrz (jCall mTup (aCons (jFrz (jM "BadBars" "no such bars" (aCons (jFrz (jVar 0)) aNil))) (aCons (jFrz (jM "BadBars" "no such bars" (aCons (jFrz (jVar 0)) aNil))) (aCons (jC (.str "BadBars")) aNil))))) aNil))))
  (sSeq (sSet 1 (jBin mAdd (jVar 1) (jCall mLst (aCons (jFrz (jCall mTup (aCons (jFrz (jM "BadSurface" "no such surface" (aCons (jFrz (jVar 0)) aNil))) (aCons (jFrz (jM "BadSurface" "no such surface" (aCons (jFrz (jVar 0)) aNil))) (aCons (jC (.str "BadSurface")) aNil))))) aNil))))
  (sSeq (sSet 1 (jBin mAdd (jVar 1) (jCall mLst (aCons (jFrz (jCall mTup (aCons (jFrz (jM "BadMap" "no such permutation" (aCons (jFrz (jVar 0)) aNil))) (aCons (jFrz (jM "BadMap" "no such permutation" (aCons (jFrz (jVar 0)) aNil))) (aCons (jC (.str "BadMap")) aNil))))) aNil))))
  (sSeq (sSet 1 (jBin mAdd (jVar 1) (jCall mLst (aCons (jFrz (jCall mTup (aCons (jFrz (jM "BadText" "no such text" (aCons (jFrz (jVar 0)) aNil))) (aCons (jFrz (jM "BadText" "no such text" (aCons (jFrz (jVar 0)) aNil))) (aCons (jC (.str "BadText")) aNil))))) aNil))))
  (sSeq (sSet 1 (jBin mAdd (jVar 1) (jCall mLst (aCons (jFrz (jCall mTup (aCons (jFrz (jM "BadPaper" "no such paper" (aCons (jFrz (jVar 0)) aNil))) (aCons (jFrz (jM "BadPaper" "no such paper" (aCons (jFrz (jVar 0)) aNil))) (aCons (jC (.str "BadPaper")) aNil))))) aNil))))
  (sRt (jBin mAdd (jVar 1) (jCall mLst (aCons (jFrz (jCall mTup (aCons (jFrz (jM "BadDeed" "no such deed" (aCons (jFrz (jVar 0)) aNil))) (aCons (jFrz (jM "BadDeed" "no such deed" (aCons (jFrz (jVar 0)) aNil))) (aCons (jC (.str "BadDeed")) aNil))))) aNil)))))))))))))))))
def F__law_placed : FF := fnF g__law_placed [0] 2 1

def g__law_kinds : SF := (sSeq (sSet 1 (jCall mLst (aCons (jFrz (jCall mTup (aCons (jC (.str "BadBars")) (aCons (jFrz (jUn (mIsE (· == "BadBars")) (jVar 0))) aNil)))) (aCons (jFrz (jCall mTup (aCons (jC (.str "BadBody")) (aCons (jFrz (jUn (mIsE (· == "BadBody")) (jVar 0))) aNil)))) aNil))))
  (sSeq (sSet 1 (jBin mAdd (jVar 1) (jCall mLst (aCons (jFrz (jCall mTup (aCons (jC (.str "BadColours")) (aCons (jFrz (jUn (mIsE (· == "BadColours")) (jVar 0))) aNil)))) (aCons (jFrz (jCall mTup (aCons (jC (.str "BadDeed")) (aCons (jFrz (jUn (mIsE (· == "BadDeed")) (jVar 0))) aNil)))) aNil)))))
  (sSeq (sSet 1 (jBin mAdd (jVar 1) (jCall mLst (aCons (jFrz (jCall mTup (aCons (jC (.str "BadDrawing")) (aCons (jFrz (jUn (mIsE (· == "BadDrawing")) (jVar 0))) aNil)))) (aCons (jFrz (jCall mTup (aCons (jC (.str "BadFace")) (aCons (jFrz (jUn (mIsE (· == "BadFace")) (jVar 0))) aNil)))) aNil)))))
  (sSeq (sSet 1 (jBin mAdd (jVar 1) (jCall mLst (aCons (jFrz (jCall mTup (aCons (jC (.str "BadGrid")) (aCons (jFrz (jUn (mIsE (· == "BadGrid")) (jVar 0))) aNil)))) (aCons (jFrz (jCall mTup (aCons (jC (.str "BadLine")) (aCons (jFrz (jUn (mIsE (· == "BadLine")) (jVar 0))) aNil)))) aNil)))))
  (sSeq (sSet 1 (jBin mAdd (jVar 1) (jCall mLst (aCons (jFrz (jCall mTup (aCons (jC (.str "BadMap")) (aCons (jFrz (jUn (mIsE (· == "BadMap")) (jVar 0))) aNil)))) (aCons (jFrz (jCall mTup (aCons (jC (.str "BadNumber")) (aCons (jFrz (jUn (mIsE (· == "BadNumber")) (jVar 0))) aNil)))) aNil)))))
  (sSeq (sSet 1 (jBin mAdd (jVar 1) (jCall mLst (aCons (jFrz (jCall mTup (aCons (jC (.str "BadOrder")) (aCons (jFrz (jUn (mIsE (· == "BadOrder")) (jVar 0))) aNil)))) (aCons (jFrz (jCall mTup (aCons (jC (.str "BadPaper")) (aCons (jFrz (jUn (mIsE (· == "BadPaper")) (jVar 0))) aNil)))) aNil)))))
  (sSeq (sSet 1 (jBin mAdd (jVar 1) (jCall mLst (aCons (jFrz (jCall mTup (aCons (jC (.str "BadPlan")) (aCons (jFrz (jUn (mIsE (· == "BadPlan")) (jVar 0))) aNil)))) (aCons (jFrz (jCall mTup (aCons (jC (.str "BadPoint")) (aCons (jFrz (jUn (mIsE (· == "BadPoint")) (jVar 0))) aNil)))) aNil)))))
  (sSeq (sSet 1 (jBin mAdd (jVar 1) (jCall mLst (aCons (jFrz (jCall mTup (aCons (jC (.str "BadSurface")) (aCons (jFrz (jUn (mIsE (· == "BadSurface")) (jVar 0))) aNil)))) (aCons (jFrz (jCall mTup (aCons (jC (.str "BadText")) (aCons (jFrz (jUn (mIsE (· == "BadText")) (jVar 0))) aNil)))) aNil)))))
  (sSeq (sSet 1 (jBin mAdd (jVar 1) (jCall mLst (aCons (jFrz (jCall mTup (aCons (jC (.str "BadTree")) (aCons (jFrz (jUn (mIsE (· == "BadTree")) (jVar 0))) aNil)))) (aCons (jFrz (jCall mTup (aCons (jC (.str "BadWeb")) (aCons (jFrz (jUn (mIsE (· == "BadWeb")) (jVar 0))) aNil)))) aNil)))))
  (sSeq (sSet 1 (jBin mAdd (jVar 1) (jCall mLst (aCons (jFrz (jCall mTup (aCons (jC (.str "NoSuch")) (aCons (jFrz (jUn (mIsE (· == "NoSuch")) (jVar 0))) aNil)))) (aCons (jFrz (jCall mTup (aCons (jC (.str "TooMany")) (aCons (jFrz (jUn (mIsE (· == "TooMany")) (jVar 0))) aNil)))) aNil)))))
  (sSeq (sSet 1 (jBin mAdd (jVar 1) (jCall mLst (aCons (jFrz (jCall mTup (aCons (jC (.str "base")) (aCons (jFrz (jUn (mIsE (isFl exN)) (jVar 0))) aNil)))) (aCons (jFrz (jCall mTup (aCons (jC (.str "value")) (aCons (jFrz (jUn (mIsE (isB exN true false false)) (jVar 0))) aNil)))) aNil)))))
  (sSeq (sSet 1 (jBin mAdd (jVar 1) (jCall mLst (aCons (jFrz (jCall mTup (aCons (jC (.str "lookup")) (aCons (jFrz (jUn (mIsE (isB exN false false true)) (jVar 0))) aNil)))) (aCons (jFrz (jCall mTup (aCons (jC (.str "overflow")) (aCons (jFrz (jUn (mIsE (isB exN false true false)) (jVar 0))) aNil)))) aNil)))))
  (sRt (jLc (iSeq (jVar 1)) (gT [(gN 2), (gN 3)]) (tTru (jVar 3)) (jVar 2) [2, 3]))))))))))))))
def F__law_kinds : FF := fnF g__law_kinds [0] 4 1

def g__law_right : SF := (sSeq (sFor (iSeq (jFn F__law_valued (aCons (jArg (jVar 0)) aNil))) (gT [(gN 1), (gN 2), (gN 3)])
  (sSeq (sIf (tOo (tBo (jBin mNe (jFn F__law_kinds (aCons (jArg (jVar 1)) aNil)) (jCall mLst (aCons (jFrz (jVar 3)) (aCons (jC (.str "base")) (aCons (jC (.str "value")) aNil)))))) (tBo (jBin mNe (jFn F__law_kinds (aCons (jArg (jVar 2)) aNil)) (jCall mLst (aCons (jFrz (jVar 3)) (aCons (jC (.str "base")) (aCons (jC (.str "value")) aNil)))))))
  (sRt (jC (.bool false)))
  sNx)
  (sIf (tOo (tBo (jBin mNe (jUn (mAtt (fldN exN) "value") (jVar 1)) (jVar 0))) (tBo (jBin mNe (jUn (mAtt (fldN exN) "value") (jVar 2)) (jVar 0))))
  (sRt (jC (.bool false)))
  sNx)))
  (sSeq (sFor (iSeq (jFn F__law_placed (aCons (jArg (jVar 0)) aNil))) (gT [(gN 1), (gN 2), (gN 3)])
  (sSeq (sIf (tOo (tBo (jBin mNe (jFn F__law_kinds (aCons (jArg (jVar 1)) aNil)) (jCall mLst (aCons (jFrz (jVar 3)) (aCons (jC (.str "base")) (aCons (jC (.str "value")) aNil)))))) (tBo (jBin mNe (jFn F__law_kinds (aCons (jArg (jVar 2)) aNil)) (jCall mLst (aCons (jFrz (jVar 3)) (aCons (jC (.str "base")) (aCons (jC (.str "value")) aNil)))))))
  (sRt (jC (.bool false)))
  sNx)
  (sIf (tOo (tBo (jBin mNe (jUn (mAtt (fldN exN) "place") (jVar 1)) (jVar 0))) (tBo (jBin mNe (jUn (mAtt (fldN exN) "place") (jVar 2)) (jVar 0))))
  (sRt (jC (.bool false)))
  sNx)))
  (sSeq (sFor (iSeq (jCall mTup (aCons (jFrz (jM "NoSuch" "nothing so called" (aCons (jFrz (jVar 0)) aNil))) (aCons (jFrz (jM "NoSuch" "nothing so called" (aCons (jFrz (jVar 0)) aNil))) aNil)))) (gN 1)
  (sIf (tOo (tBo (jBin mNe (jFn F__law_kinds (aCons (jArg (jVar 1)) aNil)) (jCall mLst (aCons (jC (.str "NoSuch")) (aCons (jC (.str "lookup")) aNil))))) (tBo (jBin mNe (jUn (mAtt (fldN exN) "value") (jVar 1)) (jVar 0))))
  (sRt (jC (.bool false)))
  sNx))
  (sSeq (sFor (iSeq (jCall mTup (aCons (jFrz (jM "TooMany" "too many" (aCons (jFrz (jVar 0)) aNil))) (aCons (jFrz (jM "TooMany" "too many" (aCons (jFrz (jVar 0)) aNil))) aNil)))) (gN 1)
  (sIf (tOo (tBo (jBin mNe (jFn F__law_kinds (aCons (jArg (jVar 1)) aNil)) (jCall mLst (aCons (jC (.str "TooMany")) (aCons (jC (.str "overflow")) aNil))))) (tBo (jBin mNe (jUn (mAtt (fldN exN) "most") (jVar 1)) (jVar 0))))
  (sRt (jC (.bool false)))
  sNx))
  (sRt (jC (.bool true)))))))
def F__law_right : FF := fnF g__law_right [0] 4 1

def g_law : SF := (sSeq (sFor (iEn (aCons (jFrz (jBin mAdd (jSl (jVar 0) oNo (oPt (jC (.int 4)))) (jCall mLst (aCons (jFrz (jCall mSum (aCons (jVar 0) aNil))) aNil)))) aNil)) (gT [(gN 4), (gN 5)])
  (sSeq (sSet 6 (jFn F__law_draw (aCons (jArg (jVar 5)) (aCons (jArg (jVar 4)) aNil))))
  (sSeq (sSet 7 (jFn F__law_digit (aCons (jArg (jVar 6)) (aCons (jC (.int 100000)) aNil))))
  (sSeq (sSet 1 (jCall mLst (aCons (jFrz (jVar 7)) (aCons (jFrz (jBin mSub (jC (.int 0)) (jVar 7))) (aCons (jFrz (jBin mMul (jC (.str "ab")) (jBin mMod (jVar 7) (jC (.int 50))))) (aCons (jFrz (jCall mTup (aCons (jC (.str "atom")) (aCons (jFrz (jCall mTup (aCons (jC (.int 0)) (aCons (jFrz (jVar 7)) aNil)))) aNil)))) (aCons (jC .none) (aCons (jFrz (jCall mTup (aCons (jFrz (jBin mPow (jC (.int 10)) (jC (.int 30)))) (aCons (jFrz (jCall mTup aNil)) aNil)))) (aCons (jFrz (jBin mMul (jCall mTup (aCons (jFrz (jVar 7)) aNil)) (jC (.int 9)))) aNil)))))))))
  (sIf (tOo (tNo (tTru (jFn F__law_right (aCons (jArg (jBin mIxA (jVar 1) (jFn F__law_digit (aCons (jArg (jVar 6)) (aCons (jC (.int 7)) aNil))))) aNil)))) (tNo (tTru (jFn F__law_right (aCons (jArg (jBin mPow (jBin mPow (jBin mPow (jC (.int 10)) (jC (.int 50))) (jC (.int 50))) (jC (.int 2)))) aNil)))))
  (sRt (jC (.bool false)))
  sNx)))))
  (sSeq (sSet 1 (jCall mLst (aCons (jFrz (jM0 "BadNumber" "no such number")) (aCons (jFrz (jM0 "BadPoint" "no such point")) (aCons (jFrz (jM0 "BadLine" "no such line")) (aCons (jFrz (jM0 "BadFace" "no such face")) (aCons (jFrz (jM0 "NoSuch" "nothing so called")) aNil)))))))
  (sSeq (sSet 2 (jCall mLst (aCons (jFrz (jM0 "BadWeb" "no such web")) (aCons (jFrz (jM0 "BadDrawing" "no such drawing")) (aCons (jFrz (jM0 "BadColours" "no such colours")) (aCons (jFrz (jM0 "BadTree" "no such tree")) (aCons (jFrz (jM0 "BadGrid" "no such grid")) (aCons (jFrz (jM0 "BadBody" "no such body")) (aCons (jFrz (jM0 "BadOrder" "no such order")) aNil)))))))))
  (sSeq (sSet 2 (jBin mAdd (jVar 2) (jCall mLst (aCons (jFrz (jM0 "BadPlan" "no such plan")) (aCons (jFrz (jM0 "BadBars" "no such bars")) (aCons (jFrz (jM0 "BadSurface" "no such surface")) (aCons (jFrz (jM0 "BadMap" "no such permutation")) (aCons (jFrz (jM0 "BadText" "no such text")) (aCons (jFrz (jM0 "BadPaper" "no such paper")) (aCons (jFrz (jM0 "BadDeed" "no such deed")) aNil))))))))))
  (sSeq (sIf (tOo (tBo (jBin mNe (jLc (iSeq (jVar 1)) (gN 9) tYe (jUn (mAtt (fldN exN) "value") (jVar 9)) [9]) (jBin mMul (jCall mLst (aCons (jC .none) aNil)) (jC (.int 5))))) (tBo (jBin mNe (jLc (iSeq (jVar 2)) (gN 9) tYe (jUn (mAtt (fldN exN) "place") (jVar 9)) [9]) (jBin mMul (jCall mLst (aCons (jC .none) aNil)) (jC (.int 14))))))
  (sRt (jC (.bool false)))
  sNx)
  (sSeq (sFor (iSeq (jCall mTup (aCons (jC (.str "zqzq")) (aCons (jFrz (jBin mPow (jC (.int 10)) (jC (.int 30)))) (aCons (jC (.int 70707)) aNil))))) (gN 3)
  (sSeq (sSet 8 (jBin mAdd (jLc (iSeq (jBin mAdd (jFn F__law_valued (aCons (jArg (jVar 3)) aNil)) (jFn F__law_placed (aCons (jArg (jVar 3)) aNil)))) (gT [(gN 10), (gN 11), (gN 12)]) tYe (jVar 10) [10, 11, 12]) (jCall mLst (aCons (jFrz (jM "NoSuch" "nothing so called" (aCons (jFrz (jVar 3)) aNil))) (aCons (jFrz (jM "TooMany" "too many" (aCons (jFrz (jVar 3)) aNil))) aNil)))))
  (sIf (tBo (jBin mNe (jLc (iSeq (jVar 8)) (gN 9) (tBo (jBin (mInY false) (jCall mStr (aCons (jVar 3) aNil)) (jCall mStr (aCons (jVar 9) aNil)))) (jVar 9) [9]) (jCall mLst aNil)))
  (sRt (jC (.bool false)))
  sNx)))
  (sRt (jC (.bool true)))))))))
def F_law : FF := fnF g_law [0] 13 1

section
variable {P : Program} {w : World} {K : PySem.W.Frag} {mg : Str → Option Value} {base : Heap} {A : Ad}

theorem sc__law_draw : FnScope ["cell", "k"] ["cell", "k"] (defScope s__law_draw) := ⟨rfl, rfl, rfl, by decide +kernel, rfl, by decide +kernel, by decide +kernel⟩
theorem ok__law_draw (T : Tx P w K mg base A) : FnOk P w K mg base (L2.CX P w) 4 A.f__law_draw A.d__law_draw ["cell", "k"] (spF (cls K A) 2 F__law_draw) := by
  refine fn_mk (N := ["cell", "k"]) (g := g__law_draw) [0, 1] T.f__law_draw sc__law_draw ?_
  intro cdv A' outer s H E Z G σ tb Zf hr
  unfold g__law_draw
  exact (jss_one (js_rt (je_disp (jp_cons (k := .inr "left") pe_str (je_frz (je_if (jt_cmp (op_geD (Room.units hr)) os_ord (jv 0) (je_bin op_powA os_pow je_int je_int) (by rfl)) (jv 0) je_int)) (jp_cons (k := .inr "cell") pe_str (je_frz (jv 0)) (jp_cons (k := .inr "turns") pe_str (je_frz (je_bin op_mulA os_mul je_int (jv 1))) jp_nil))) rfl rfl (by simp) (by decide))))

theorem sc__law_mixed : FnScope ["cell", "k", "number"] ["cell", "k"] (defScope s__law_mixed) := ⟨rfl, rfl, rfl, by decide +kernel, rfl, by decide +kernel, by decide +kernel⟩
theorem ok__law_mixed (T : Tx P w K mg base A) : FnOk P w K mg base (L2.CX P w) 4 A.f__law_mixed A.d__law_mixed ["cell", "k"] (spF (cls K A) 2 F__law_mixed) := by
  refine fn_mk (N := ["cell", "k", "number"]) (g := g__law_mixed) [0, 1] T.f__law_mixed sc__law_mixed ?_
  intro cdv A' outer s H E Z G σ tb Zf hr
  unfold g__law_mixed
  exact (jss_cons (js_set (i := 2) sc__law_mixed.nd rfl (by first | exact .inl rfl | exact .inr rfl) (je_bin op_addA os_add (je_bin op_addA os_add (je_bin op_mod os_mod (jv 0) (je_ix (ix_any (hu_of hr)) os_ixA (je_lst (ja_cons je_int (ja_cons je_int (ja_cons je_int (ja_cons je_int ja_nil))))) (je_bin op_mod os_mod (jv 1) je_int) (fun _ _ => rfl))) (je_bin op_mulA os_mul je_int (jv 1))) je_int))
  (jss_one (js_rt (je_bin op_mod os_mod (je_bin op_mulA os_mul (je_bin op_mod os_mod (je_bin op_mulA os_mul (jv 2) (jv 2)) je_int) je_int) je_int))))

theorem sc__law_digit : FnScope ["state", "below", "found", "j"] ["state", "below"] (defScope s__law_digit) := ⟨rfl, rfl, rfl, by decide +kernel, rfl, by decide +kernel, by decide +kernel⟩
theorem ok__law_digit (T : Tx P w K mg base A) : FnOk P w K mg base (L2.CX P w) 5 A.f__law_digit A.d__law_digit ["state", "below"] (spF (cls K A) 2 F__law_digit) := by
  refine fn_mk (N := ["state", "below", "found", "j"]) (g := g__law_digit) [0, 1] T.f__law_digit sc__law_digit ?_
  intro cdv A' outer s H E Z G σ tb Zf hr
  unfold g__law_digit
  exact (jss_cons (js_if (jt_cmp (op_eqD (Room.units hr)) os_eq (je_ix (ix_any (hu_of hr)) os_ixA (jv 0) je_str (fun _ _ => rfl)) je_int (by rfl))
  (jss_one (js_for (passes_of rfl) rfl (ji_range1 (by rfl) T.z_range (ja_cons je_int ja_nil)) (jn sc__law_digit.nd)
  (jss_cons (js_put (i := 0) (hu_of hr) rfl (by first | exact Or.inl rfl | exact Or.inr (Or.inr rfl) | exact Or.inr (Or.inl rfl)) (je_bin op_addA os_add (je_ix (ix_any (hu_of hr)) os_ixA (jv 0) je_str (fun _ _ => rfl)) je_int) je_str)
  (jss_one (js_put (i := 0) (hu_of hr) rfl (by first | exact Or.inl rfl | exact Or.inr (Or.inr rfl) | exact Or.inr (Or.inl rfl)) (je_bin op_addA os_add (je_bin op_mulA os_mul (je_ix (ix_any (hu_of hr)) os_ixA (jv 0) je_str (fun _ _ => rfl)) je_int) (je_fn ((ok__law_mixed T).mono (by decide)) hr (by rfl) T.g__law_mixed T.f__law_mixed.kp T.b__law_mixed (takes_of rfl rfl rfl rfl) (ja_cons (je_arg (je_ix (ix_any (hu_of hr)) os_ixA (jv 0) je_str (fun _ _ => rfl))) (ja_cons (je_arg (je_ix (ix_any (hu_of hr)) os_ixA (jv 0) je_str (fun _ _ => rfl))) ja_nil)) (alS (alS al0)))) je_str)))))
  jss_nil)
  (jss_cons (js_set (i := 2) sc__law_digit.nd rfl (by first | exact .inl rfl | exact .inr rfl) (je_bin op_mod os_mod (je_ix (ix_any (hu_of hr)) os_ixA (jv 0) je_str (fun _ _ => rfl)) (jv 1)))
  (jss_cons (js_put (i := 0) (hu_of hr) rfl (by first | exact Or.inl rfl | exact Or.inr (Or.inr rfl) | exact Or.inr (Or.inl rfl)) (je_bin op_divA os_div (je_ix (ix_any (hu_of hr)) os_ixA (jv 0) je_str (fun _ _ => rfl)) (jv 1)) je_str)
  (jss_one (js_rt (je_tk (jv 2)))))))

theorem sc__law_valued : FnScope ["thing", "found"] ["thing"] (defScope s__law_valued) := ⟨rfl, rfl, rfl, by decide +kernel, rfl, by decide +kernel, by decide +kernel⟩
theorem ok__law_valued (T : Tx P w K mg base A) : FnOk P w K mg base (L2.CX P w) 4 A.f__law_valued A.d__law_valued ["thing"] (spF (cls K A) 1 F__law_valued) := by
  refine fn_mk (N := ["thing", "found"]) (g := g__law_valued) [0] T.f__law_valued sc__law_valued ?_
  intro cdv A' outer s H E Z G σ tb Zf hr
  unfold g__law_valued
  exact (jss_cons (js_set (i := 1) sc__law_valued.nd rfl (by first | exact .inl rfl | exact .inr rfl) (je_lst (ja_cons (je_frz (je_tup (ja_cons (je_frz (je_m T.m_BadNumber rfl (hr.mono (by decide)) (by rfl) (ja_cons (je_frz (jv 0)) ja_nil))) (ja_cons (je_frz (je_mk T.m_BadNumber rfl (hr.mono (by decide)) (by rfl) (jv 0))) (ja_cons je_str ja_nil))))) ja_nil)))
  (jss_cons (js_set (i := 1) sc__law_valued.nd rfl (by first | exact .inl rfl | exact .inr rfl) (je_bin op_addA os_add (jv 1) (je_lst (ja_cons (je_frz (je_tup (ja_cons (je_frz (je_m T.m_BadPoint rfl (hr.mono (by decide)) (by rfl) (ja_cons (je_frz (jv 0)) ja_nil))) (ja_cons (je_frz (je_mk T.m_BadPoint rfl (hr.mono (by decide)) (by rfl) (jv 0))) (ja_cons je_str ja_nil))))) ja_nil))))
  (jss_cons (js_set (i := 1) sc__law_valued.nd rfl (by first | exact .inl rfl | exact .inr rfl) (je_bin op_addA os_add (jv 1) (je_lst (ja_cons (je_frz (je_tup (ja_cons (je_frz (je_m T.m_BadLine rfl (hr.mono (by decide)) (by rfl) (ja_cons (je_frz (jv 0)) ja_nil))) (ja_cons (je_frz (je_mk T.m_BadLine rfl (hr.mono (by decide)) (by rfl) (jv 0))) (ja_cons je_str ja_nil))))) ja_nil))))
  (jss_one (js_rt (je_bin op_addA os_add (jv 1) (je_lst (ja_cons (je_frz (je_tup (ja_cons (je_frz (je_m T.m_BadFace rfl (hr.mono (by decide)) (by rfl) (ja_cons (je_frz (jv 0)) ja_nil))) (ja_cons (je_frz (je_mk T.m_BadFace rfl (hr.mono (by decide)) (by rfl) (jv 0))) (ja_cons je_str ja_nil))))) ja_nil))))))))

theorem sc__law_placed : FnScope ["thing", "found"] ["thing"] (defScope s__law_placed) := ⟨rfl, rfl, rfl, by decide +kernel, rfl, by decide +kernel, by decide +kernel⟩
theorem ok__law_placed (T : Tx P w K mg base A) : FnOk P w K mg base (L2.CX P w) 4 A.f__law_placed A.d__law_placed ["thing"] (spF (cls K A) 1 F__law_placed) := by
  refine fn_mk (N := ["thing", "found"]) (g := g__law_placed) [0] T.f__law_placed sc__law_placed ?_
  intro cdv A' outer s H E Z G σ tb Zf hr
  unfold g__law_placed
  exact (jss_cons (js_set (i := 1) sc__law_placed.nd rfl (by first | exact .inl rfl | exact .inr rfl) (je_lst (ja_cons (je_frz (je_tup (ja_cons (je_frz (je_m T.m_BadWeb rfl (hr.mono (by decide)) (by rfl) (ja_cons (je_frz (jv 0)) ja_nil))) (ja_cons (je_frz (je_mk T.m_BadWeb rfl (hr.mono (by decide)) (by rfl) (jv 0))) (ja_cons je_str ja_nil))))) ja_nil)))
  (jss_cons (js_set (i := 1) sc__law_placed.nd rfl (by first | exact .inl rfl | exact .inr rfl) (je_bin op_addA os_add (jv 1) (je_lst (ja_cons (je_frz (je_tup (ja_cons (je_frz (je_m T.m_BadDrawing rfl (hr.mono (by decide)) (by rfl) (ja_cons (je_frz (jv 0)) ja_nil))) (ja_cons (je_frz (je_mk T.m_BadDrawing rfl (hr.mono (by decide)) (by rfl) (jv 0))) (ja_cons je_str ja_nil))))) ja_nil))))
  (jss_cons (js_set (i := 1) sc__law_placed.nd rfl (by first | exact .inl rfl | exact .inr rfl) (je_bin op_addA os_add (jv 1) (je_lst (ja_cons (je_frz (je_tup (ja_cons (je_frz (je_m T.m_BadColours rfl (hr.mono (by decide)) (by rfl) (ja_cons (je_frz (jv 0)) ja_nil))) (ja_cons (je_frz (je_mk T.m_BadColours rfl (hr.mono (by decide)) (by rfl) (jv 0))) (ja_cons je_str ja_nil))))) ja_nil))))
  (jss_cons (js_set (i := 1) sc__law_placed.nd rfl (by first | exact .inl rfl | exact .inr rfl) (je_bin op_addA os_add (jv 1) (je_lst (ja_cons (je_frz (je_tup (ja_cons (je_frz (je_m T.m_BadTree rfl (hr.mono (by decide)) (by rfl) (ja_cons (je_frz (jv 0)) ja_nil))) (ja_cons (je_frz (je_mk T.m_BadTree rfl (hr.mono (by decide)) (by rfl) (jv 0))) (ja_cons je_str ja_nil))))) ja_nil))))
  (jss_cons (js_set (i := 1) sc__law_placed.nd rfl (by first | exact .inl rfl | exact .inr rfl) (je_bin op_addA os_add (jv 1) (je_lst (ja_cons (je_frz (je_tup (ja_cons (je_frz (je_m T.m_BadGrid rfl (hr.mono (by decide)) (by rfl) (ja_cons (je_frz (jv 0)) ja_nil))) (ja_cons (je_frz (je_mk T.m_BadGrid rfl (hr.mono (by decide)) (by rfl) (jv 0))) (ja_cons je_str ja_nil))))) ja_nil))))
  (jss_cons (js_set (i := 1) sc__law_placed.nd rfl (by first | exact .inl rfl | exact .inr rfl) (je_bin op_addA os_add (jv 1) (je_lst (ja_cons (je_frz (je_tup (ja_cons (je_frz (je_m T.m_BadBody rfl (hr.mono (by decide)) (by rfl) (ja_cons (je_frz (jv 0)) ja_nil))) (ja_cons (je_frz (je_mk T.m_BadBody rfl (hr.mono (by decide)) (by rfl) (jv 0))) (ja_cons je_str ja_nil))))) ja_nil))))
  (jss_cons (js_set (i := 1) sc__law_placed.nd rfl (by first | exact .inl rfl | exact .inr rfl) (je_bin op_addA os_add (jv 1) (je_lst (ja_cons (je_frz (je_tup (ja_cons (je_frz (je_m T.m_BadOrder rfl (hr.mono (by decide)) (by rfl) (ja_cons (je_frz (jv 0)) ja_nil))) (ja_cons (je_frz (je_mk T.m_BadOrder rfl (hr.mono (by decide)) (by rfl) (jv 0))) (ja_cons je_str ja_nil))))) ja_nil))))
  (jss_cons (js_set (i := 1) sc__law_placed.nd rfl (by first | exact .inl rfl | exact .inr rfl) (je_bin op_addA os_add (jv 1) (je_lst (ja_cons (je_frz (je_tup (ja_cons (je_frz (je_m T.m_BadPlan rfl (hr.mono (by decide)) (by rfl) (ja_cons (je_frz (jv 0)) ja_nil))) (ja_cons (je_frz (je_mk T.m_BadPlan rfl (hr.mono (by decide)) (by rfl) (jv 0))) (ja_cons je_str ja_nil))))) ja_nil))))
  (jss_cons (js_set (i := 1) sc__law_placed.nd rfl (by first | exact .inl rfl | exact .inr rfl) (je_bin op_addA os_add (jv 1) (je_lst (ja_cons (je_frz (je_tup (ja_cons (je_frz (je_m T.m_BadBars rfl (hr.mono (by decide)) (by rfl) (ja_cons (je_frz (jv 0)) ja_nil))) (ja_cons (je_frz (je_mk T.m_BadBars rfl (hr.mono (by decide)) (by rfl) (jv 0))) (ja_cons je_str ja_nil))))) ja_nil))))
  (jss_cons (js_set (i := 1) sc__law_placed.nd rfl (by first | exact .inl rfl | exact .inr rfl) (je_bin op_addA os_add (jv 1) (je_lst (ja_cons (je_frz (je_tup (ja_cons (je_frz (je_m T.m_BadSurface rfl (hr.mono (by decide)) (by rfl) (ja_cons (je_frz (jv 0)) ja_nil))) (ja_cons (je_frz (je_mk T.m_BadSurface rfl (hr.mono (by decide)) (by rfl) (jv 0))) (ja_cons je_str ja_nil))))) ja_nil))))
  (jss_cons (js_set (i := 1) sc__law_placed.nd rfl (by first | exact .inl rfl | exact .inr rfl) (je_bin op_addA os_add (jv 1) (je_lst (ja_cons (je_frz (je_tup (ja_cons (je_frz (je_m T.m_BadMap rfl (hr.mono (by decide)) (by rfl) (ja_cons (je_frz (jv 0)) ja_nil))) (ja_cons (je_frz (je_mk T.m_BadMap rfl (hr.mono (by decide)) (by rfl) (jv 0))) (ja_cons je_str ja_nil))))) ja_nil))))
  (jss_cons (js_set (i := 1) sc__law_placed.nd rfl (by first | exact .inl rfl | exact .inr rfl) (je_bin op_addA os_add (jv 1) (je_lst (ja_cons (je_frz (je_tup (ja_cons (je_frz (je_m T.m_BadText rfl (hr.mono (by decide)) (by rfl) (ja_cons (je_frz (jv 0)) ja_nil))) (ja_cons (je_frz (je_mk T.m_BadText rfl (hr.mono (by decide)) (by rfl) (jv 0))) (ja_cons je_str ja_nil))))) ja_nil))))
  (jss_cons (js_set (i := 1) sc__law_placed.nd rfl (by first | exact .inl rfl | exact .inr rfl) (je_bin op_addA os_add (jv 1) (je_lst (ja_cons (je_frz (je_tup (ja_cons (je_frz (je_m T.m_BadPaper rfl (hr.mono (by decide)) (by rfl) (ja_cons (je_frz (jv 0)) ja_nil))) (ja_cons (je_frz (je_mk T.m_BadPaper rfl (hr.mono (by decide)) (by rfl) (jv 0))) (ja_cons je_str ja_nil))))) ja_nil))))
  (jss_one (js_rt (je_bin op_addA os_add (jv 1) (je_lst (ja_cons (je_frz (je_tup (ja_cons (je_frz (je_m T.m_BadDeed rfl (hr.mono (by decide)) (by rfl) (ja_cons (je_frz (jv 0)) ja_nil))) (ja_cons (je_frz (je_mk T.m_BadDeed rfl (hr.mono (by decide)) (by rfl) (jv 0))) (ja_cons je_str ja_nil))))) ja_nil))))))))))))))))))

theorem sc__law_kinds : FnScope ["e", "some", "word", "is_so"] ["e"] (defScope s__law_kinds) := ⟨rfl, rfl, rfl, by decide +kernel, rfl, by decide +kernel, by decide +kernel⟩
theorem ok__law_kinds (T : Tx P w K mg base A) : FnOk P w K mg base (L2.CX P w) 4 A.f__law_kinds A.d__law_kinds ["e"] (spF (cls K A) 1 F__law_kinds) := by
  refine fn_mk (N := ["e", "some", "word", "is_so"]) (g := g__law_kinds) [0] T.f__law_kinds sc__law_kinds ?_
  intro cdv A' outer s H E Z G σ tb Zf hr
  unfold g__law_kinds
  exact (jss_cons (js_set (i := 1) sc__law_kinds.nd rfl (by first | exact .inl rfl | exact .inr rfl) (je_lst (ja_cons (je_frz (je_tup (ja_cons je_str (ja_cons (je_frz (je_ise (pe_glob (by rfl) T.q_BadBars (show RelV (.ref _) (.ref _) from rfl)) (fun u h => h) (T.E.kit exNd (T := ex_BadBars A) (by simp [exL, ex_BadBars])) (jv 0) (by rfl) T.z_isinstance)) ja_nil)))) (ja_cons (je_frz (je_tup (ja_cons je_str (ja_cons (je_frz (je_ise (pe_glob (by rfl) T.q_BadBody (show RelV (.ref _) (.ref _) from rfl)) (fun u h => h) (T.E.kit exNd (T := ex_BadBody A) (by simp [exL, ex_BadBody])) (jv 0) (by rfl) T.z_isinstance)) ja_nil)))) ja_nil))))
  (jss_cons (js_set (i := 1) sc__law_kinds.nd rfl (by first | exact .inl rfl | exact .inr rfl) (je_bin op_addA os_add (jv 1) (je_lst (ja_cons (je_frz (je_tup (ja_cons je_str (ja_cons (je_frz (je_ise (pe_glob (by rfl) T.q_BadColours (show RelV (.ref _) (.ref _) from rfl)) (fun u h => h) (T.E.kit exNd (T := ex_BadColours A) (by simp [exL, ex_BadColours])) (jv 0) (by rfl) T.z_isinstance)) ja_nil)))) (ja_cons (je_frz (je_tup (ja_cons je_str (ja_cons (je_frz (je_ise (pe_glob (by rfl) T.q_BadDeed (show RelV (.ref _) (.ref _) from rfl)) (fun u h => h) (T.E.kit exNd (T := ex_BadDeed A) (by simp [exL, ex_BadDeed])) (jv 0) (by rfl) T.z_isinstance)) ja_nil)))) ja_nil)))))
  (jss_cons (js_set (i := 1) sc__law_kinds.nd rfl (by first | exact .inl rfl | exact .inr rfl) (je_bin op_addA os_add (jv 1) (je_lst (ja_cons (je_frz (je_tup (ja_cons je_str (ja_cons (je_frz (je_ise (pe_glob (by rfl) T.q_BadDrawing (show RelV (.ref _) (.ref _) from rfl)) (fun u h => h) (T.E.kit exNd (T := ex_BadDrawing A) (by simp [exL, ex_BadDrawing])) (jv 0) (by rfl) T.z_isinstance)) ja_nil)))) (ja_cons (je_frz (je_tup (ja_cons je_str (ja_cons (je_frz (je_ise (pe_glob (by rfl) T.q_BadFace (show RelV (.ref _) (.ref _) from rfl)) (fun u h => h) (T.E.kit exNd (T := ex_BadFace A) (by simp [exL, ex_BadFace])) (jv 0) (by rfl) T.z_isinstance)) ja_nil)))) ja_nil)))))
  (jss_cons (js_set (i := 1) sc__law_kinds.nd rfl (by first | exact .inl rfl | exact .inr rfl) (je_bin op_addA os_add (jv 1) (je_lst (ja_cons (je_frz (je_tup (ja_cons je_str (ja_cons (je_frz (je_ise (pe_glob (by rfl) T.q_BadGrid (show RelV (.ref _) (.ref _) from rfl)) (fun u h => h) (T.E.kit exNd (T := ex_BadGrid A) (by simp [exL, ex_BadGrid])) (jv 0) (by rfl) T.z_isinstance)) ja_nil)))) (ja_cons (je_frz (je_tup (ja_cons je_str (ja_cons (je_frz (je_ise (pe_glob (by rfl) T.q_BadLine (show RelV (.ref _) (.ref _) from rfl)) (fun u h => h) (T.E.kit exNd (T := ex_BadLine A) (by simp [exL, ex_BadLine])) (jv 0) (by rfl) T.z_isinstance)) ja_nil)))) ja_nil)))))
  (jss_cons (js_set (i := 1) sc__law_kinds.nd rfl (by first | exact .inl rfl | exact .inr rfl) (je_bin op_addA os_add (jv 1) (je_lst (ja_cons (je_frz (je_tup (ja_cons je_str (ja_cons (je_frz (je_ise (pe_glob (by rfl) T.q_BadMap (show RelV (.ref _) (.ref _) from rfl)) (fun u h => h) (T.E.kit exNd (T := ex_BadMap A) (by simp [exL, ex_BadMap])) (jv 0) (by rfl) T.z_isinstance)) ja_nil)))) (ja_cons (je_frz (je_tup (ja_cons je_str (ja_cons (je_frz (je_ise (pe_glob (by rfl) T.q_BadNumber (show RelV (.ref _) (.ref _) from rfl)) (fun u h => h) (T.E.kit exNd (T := ex_BadNumber A) (by simp [exL, ex_BadNumber])) (jv 0) (by rfl) T.z_isinstance)) ja_nil)))) ja_nil)))))
  (jss_cons (js_set (i := 1) sc__law_kinds.nd rfl (by first | exact .inl rfl | exact .inr rfl) (je_bin op_addA os_add (jv 1) (je_lst (ja_cons (je_frz (je_tup (ja_cons je_str (ja_cons (je_frz (je_ise (pe_glob (by rfl) T.q_BadOrder (show RelV (.ref _) (.ref _) from rfl)) (fun u h => h) (T.E.kit exNd (T := ex_BadOrder A) (by simp [exL, ex_BadOrder])) (jv 0) (by rfl) T.z_isinstance)) ja_nil)))) (ja_cons (je_frz (je_tup (ja_cons je_str (ja_cons (je_frz (je_ise (pe_glob (by rfl) T.q_BadPaper (show RelV (.ref _) (.ref _) from rfl)) (fun u h => h) (T.E.kit exNd (T := ex_BadPaper A) (by simp [exL, ex_BadPaper])) (jv 0) (by rfl) T.z_isinstance)) ja_nil)))) ja_nil)))))
  (jss_cons (js_set (i := 1) sc__law_kinds.nd rfl (by first | exact .inl rfl | exact .inr rfl) (je_bin op_addA os_add (jv 1) (je_lst (ja_cons (je_frz (je_tup (ja_cons je_str (ja_cons (je_frz (je_ise (pe_glob (by rfl) T.q_BadPlan (show RelV (.ref _) (.ref _) from rfl)) (fun u h => h) (T.E.kit exNd (T := ex_BadPlan A) (by simp [exL, ex_BadPlan])) (jv 0) (by rfl) T.z_isinstance)) ja_nil)))) (ja_cons (je_frz (je_tup (ja_cons je_str (ja_cons (je_frz (je_ise (pe_glob (by rfl) T.q_BadPoint (show RelV (.ref _) (.ref _) from rfl)) (fun u h => h) (T.E.kit exNd (T := ex_BadPoint A) (by simp [exL, ex_BadPoint])) (jv 0) (by rfl) T.z_isinstance)) ja_nil)))) ja_nil)))))
  (jss_cons (js_set (i := 1) sc__law_kinds.nd rfl (by first | exact .inl rfl | exact .inr rfl) (je_bin op_addA os_add (jv 1) (je_lst (ja_cons (je_frz (je_tup (ja_cons je_str (ja_cons (je_frz (je_ise (pe_glob (by rfl) T.q_BadSurface (show RelV (.ref _) (.ref _) from rfl)) (fun u h => h) (T.E.kit exNd (T := ex_BadSurface A) (by simp [exL, ex_BadSurface])) (jv 0) (by rfl) T.z_isinstance)) ja_nil)))) (ja_cons (je_frz (je_tup (ja_cons je_str (ja_cons (je_frz (je_ise (pe_glob (by rfl) T.q_BadText (show RelV (.ref _) (.ref _) from rfl)) (fun u h => h) (T.E.kit exNd (T := ex_BadText A) (by simp [exL, ex_BadText])) (jv 0) (by rfl) T.z_isinstance)) ja_nil)))) ja_nil)))))
  (jss_cons (js_set (i := 1) sc__law_kinds.nd rfl (by first | exact .inl rfl | exact .inr rfl) (je_bin op_addA os_add (jv 1) (je_lst (ja_cons (je_frz (je_tup (ja_cons je_str (ja_cons (je_frz (je_ise (pe_glob (by rfl) T.q_BadTree (show RelV (.ref _) (.ref _) from rfl)) (fun u h => h) (T.E.kit exNd (T := ex_BadTree A) (by simp [exL, ex_BadTree])) (jv 0) (by rfl) T.z_isinstance)) ja_nil)))) (ja_cons (je_frz (je_tup (ja_cons je_str (ja_cons (je_frz (je_ise (pe_glob (by rfl) T.q_BadWeb (show RelV (.ref _) (.ref _) from rfl)) (fun u h => h) (T.E.kit exNd (T := ex_BadWeb A) (by simp [exL, ex_BadWeb])) (jv 0) (by rfl) T.z_isinstance)) ja_nil)))) ja_nil)))))
  (jss_cons (js_set (i := 1) sc__law_kinds.nd rfl (by first | exact .inl rfl | exact .inr rfl) (je_bin op_addA os_add (jv 1) (je_lst (ja_cons (je_frz (je_tup (ja_cons je_str (ja_cons (je_frz (je_ise (pe_glob (by rfl) T.q_NoSuch (show RelV (.ref _) (.ref _) from rfl)) (fun u h => h) (T.E.kit exNd (T := ex_NoSuch A) (by simp [exL, ex_NoSuch])) (jv 0) (by rfl) T.z_isinstance)) ja_nil)))) (ja_cons (je_frz (je_tup (ja_cons je_str (ja_cons (je_frz (je_ise (pe_glob (by rfl) T.q_TooMany (show RelV (.ref _) (.ref _) from rfl)) (fun u h => h) (T.E.kit exNd (T := ex_TooMany A) (by simp [exL, ex_TooMany])) (jv 0) (by rfl) T.z_isinstance)) ja_nil)))) ja_nil)))))
  (jss_cons (js_set (i := 1) sc__law_kinds.nd rfl (by first | exact .inl rfl | exact .inr rfl) (je_bin op_addA os_add (jv 1) (je_lst (ja_cons (je_frz (je_tup (ja_cons je_str (ja_cons (je_frz (je_ise (pe_glob (by rfl) T.gF (show RelV (.ref _) (.ref _) from rfl)) (fun u h => h) (T.E.kitFN (N := exN) rfl) (jv 0) (by rfl) T.z_isinstance)) ja_nil)))) (ja_cons (je_frz (je_tup (ja_cons je_str (ja_cons (je_frz (je_ise (pe_bltn (v := .ty "ValueError") (by rfl) T.z_ValueError bt_ValueError rfl) (fun u h => h) (T.E.kitB (N := exN) rfl (by decide +kernel) rfl rfl rfl) (jv 0) (by rfl) T.z_isinstance)) ja_nil)))) ja_nil)))))
  (jss_cons (js_set (i := 1) sc__law_kinds.nd rfl (by first | exact .inl rfl | exact .inr rfl) (je_bin op_addA os_add (jv 1) (je_lst (ja_cons (je_frz (je_tup (ja_cons je_str (ja_cons (je_frz (je_ise (pe_bltn (v := .ty "LookupError") (by rfl) T.z_LookupError bt_LookupError rfl) (fun u h => h) (T.E.kitB (N := exN) rfl (by decide +kernel) rfl rfl rfl) (jv 0) (by rfl) T.z_isinstance)) ja_nil)))) (ja_cons (je_frz (je_tup (ja_cons je_str (ja_cons (je_frz (je_ise (pe_bltn (v := .ty "OverflowError") (by rfl) T.z_OverflowError bt_OverflowError rfl) (fun u h => h) (T.E.kitB (N := exN) rfl (by decide +kernel) rfl rfl rfl) (jv 0) (by rfl) T.z_isinstance)) ja_nil)))) ja_nil)))))
  (jss_one (js_rt (je_lc (own := [("word", 2), ("is_so", 3)]) rfl sc__law_kinds.nd (ji_seq (jv 1)) (show BlkOk ["e", "some", "word", "is_so"] (defScope s__law_kinds) _ _ from ⟨rfl, by decide +kernel, by decide +kernel, by decide +kernel, by decide +kernel⟩) (fun s H A cl fp => (jg_tup rfl (jgs_cons (jn sc__law_kinds.nd) (jgs_cons (jn sc__law_kinds.nd) jgs_nil)))) (fun s H A cl fp => (jts_one (jt_tru (jv 3)))) (fun s H A cl fp => (jv 2)))))))))))))))))

theorem sc__law_right : FnScope ["thing", "one", "other", "name"] ["thing"] (defScope s__law_right) := ⟨rfl, rfl, rfl, by decide +kernel, rfl, by decide +kernel, by decide +kernel⟩
theorem ok__law_right (T : Tx P w K mg base A) : FnOk P w K mg base (L2.CX P w) 5 A.f__law_right A.d__law_right ["thing"] (spF (cls K A) 1 F__law_right) := by
  refine fn_mk (N := ["thing", "one", "other", "name"]) (g := g__law_right) [0] T.f__law_right sc__law_right ?_
  intro cdv A' outer s H E Z G σ tb Zf hr
  unfold g__law_right
  exact (jss_cons (js_for (passes_of rfl) rfl (ji_seq (je_fn ((ok__law_valued T).mono (by decide)) hr (by rfl) T.g__law_valued T.f__law_valued.kp T.b__law_valued (takes_of rfl rfl rfl rfl) (ja_cons (je_arg (jv 0)) ja_nil) (alS al0))) (jg_tup rfl (jgs_cons (jn sc__law_right.nd) (jgs_cons (jn sc__law_right.nd) (jgs_cons (jn sc__law_right.nd) jgs_nil))))
  (jss_cons (js_if (PW.pt (jw_or (jt_cmp (op_neD (Room.units hr)) os_ne (je_fn ((ok__law_kinds T).mono (by decide)) hr (by rfl) T.g__law_kinds T.f__law_kinds.kp T.b__law_kinds (takes_of rfl rfl rfl rfl) (ja_cons (je_arg (jv 1)) ja_nil) (alS al0)) (je_lst (ja_cons (je_frz (jv 3)) (ja_cons je_str (ja_cons je_str ja_nil)))) (by rfl)) (jw_or1 (jt_cmp (op_neD (Room.units hr)) os_ne (je_fn ((ok__law_kinds T).mono (by decide)) hr (by rfl) T.g__law_kinds T.f__law_kinds.kp T.b__law_kinds (takes_of rfl rfl rfl rfl) (ja_cons (je_arg (jv 2)) ja_nil) (alS al0)) (je_lst (ja_cons (je_frz (jv 3)) (ja_cons je_str (ja_cons je_str ja_nil)))) (by rfl)))))
  (jss_one (js_rt je_bl))
  jss_nil)
  (jss_one (js_if (PW.pt (jw_or (jt_cmp (op_neD (Room.units hr)) os_ne (je_att (f := "value") (T.E.fldy (N := exN) rfl) (jv 1)) (jv 0) (by rfl)) (jw_or1 (jt_cmp (op_neD (Room.units hr)) os_ne (je_att (f := "value") (T.E.fldy (N := exN) rfl) (jv 2)) (jv 0) (by rfl)))))
  (jss_one (js_rt je_bl))
  jss_nil))))
  (jss_cons (js_for (passes_of rfl) rfl (ji_seq (je_fn ((ok__law_placed T).mono (by decide)) hr (by rfl) T.g__law_placed T.f__law_placed.kp T.b__law_placed (takes_of rfl rfl rfl rfl) (ja_cons (je_arg (jv 0)) ja_nil) (alS al0))) (jg_tup rfl (jgs_cons (jn sc__law_right.nd) (jgs_cons (jn sc__law_right.nd) (jgs_cons (jn sc__law_right.nd) jgs_nil))))
  (jss_cons (js_if (PW.pt (jw_or (jt_cmp (op_neD (Room.units hr)) os_ne (je_fn ((ok__law_kinds T).mono (by decide)) hr (by rfl) T.g__law_kinds T.f__law_kinds.kp T.b__law_kinds (takes_of rfl rfl rfl rfl) (ja_cons (je_arg (jv 1)) ja_nil) (alS al0)) (je_lst (ja_cons (je_frz (jv 3)) (ja_cons je_str (ja_cons je_str ja_nil)))) (by rfl)) (jw_or1 (jt_cmp (op_neD (Room.units hr)) os_ne (je_fn ((ok__law_kinds T).mono (by decide)) hr (by rfl) T.g__law_kinds T.f__law_kinds.kp T.b__law_kinds (takes_of rfl rfl rfl rfl) (ja_cons (je_arg (jv 2)) ja_nil) (alS al0)) (je_lst (ja_cons (je_frz (jv 3)) (ja_cons je_str (ja_cons je_str ja_nil)))) (by rfl)))))
  (jss_one (js_rt je_bl))
  jss_nil)
  (jss_one (js_if (PW.pt (jw_or (jt_cmp (op_neD (Room.units hr)) os_ne (je_att (f := "place") (T.E.fldy (N := exN) rfl) (jv 1)) (jv 0) (by rfl)) (jw_or1 (jt_cmp (op_neD (Room.units hr)) os_ne (je_att (f := "place") (T.E.fldy (N := exN) rfl) (jv 2)) (jv 0) (by rfl)))))
  (jss_one (js_rt je_bl))
  jss_nil))))
  (jss_cons (js_for (passes_of rfl) rfl (ji_seq (je_tup (ja_cons (je_frz (je_m T.m_NoSuch rfl (hr.mono (by decide)) (by rfl) (ja_cons (je_frz (jv 0)) ja_nil))) (ja_cons (je_frz (je_mk T.m_NoSuch rfl (hr.mono (by decide)) (by rfl) (jv 0))) ja_nil)))) (jn sc__law_right.nd)
  (jss_one (js_if (PW.pt (jw_or (jt_cmp (op_neD (Room.units hr)) os_ne (je_fn ((ok__law_kinds T).mono (by decide)) hr (by rfl) T.g__law_kinds T.f__law_kinds.kp T.b__law_kinds (takes_of rfl rfl rfl rfl) (ja_cons (je_arg (jv 1)) ja_nil) (alS al0)) (je_lst (ja_cons je_str (ja_cons je_str ja_nil))) (by rfl)) (jw_or1 (jt_cmp (op_neD (Room.units hr)) os_ne (je_att (f := "value") (T.E.fldy (N := exN) rfl) (jv 1)) (jv 0) (by rfl)))))
  (jss_one (js_rt je_bl))
  jss_nil)))
  (jss_cons (js_for (passes_of rfl) rfl (ji_seq (je_tup (ja_cons (je_frz (je_m T.m_TooMany rfl (hr.mono (by decide)) (by rfl) (ja_cons (je_frz (jv 0)) ja_nil))) (ja_cons (je_frz (je_mk T.m_TooMany rfl (hr.mono (by decide)) (by rfl) (jv 0))) ja_nil)))) (jn sc__law_right.nd)
  (jss_one (js_if (PW.pt (jw_or (jt_cmp (op_neD (Room.units hr)) os_ne (je_fn ((ok__law_kinds T).mono (by decide)) hr (by rfl) T.g__law_kinds T.f__law_kinds.kp T.b__law_kinds (takes_of rfl rfl rfl rfl) (ja_cons (je_arg (jv 1)) ja_nil) (alS al0)) (je_lst (ja_cons je_str (ja_cons je_str ja_nil))) (by rfl)) (jw_or1 (jt_cmp (op_neD (Room.units hr)) os_ne (je_att (f := "most") (T.E.fldy (N := exN) rfl) (jv 1)) (jv 0) (by rfl)))))
  (jss_one (js_rt je_bl))
  jss_nil)))
  (jss_one (js_rt je_bl))))))

theorem sc_law : FnScope ["script", "some", "others", "thing", "k", "cell", "state", "number", "made", "e", "one", "other", "name"] ["script"] (defScope s_law) := ⟨rfl, rfl, rfl, by decide +kernel, rfl, by decide +kernel, by decide +kernel⟩
theorem ok_law (T : Tx P w K mg base A) : FnOk P w K mg base (L2.CX P w) 6 A.f_law A.d_law ["script"] (spF (cls K A) 1 F_law) := by
  refine fn_mk (N := ["script", "some", "others", "thing", "k", "cell", "state", "number", "made", "e", "one", "other", "name"]) (g := g_law) [0] T.f_law sc_law ?_
  intro cdv A' outer s H E Z G σ tb Zf hr
  unfold g_law
  exact (jss_cons (js_for (passes_of rfl) rfl (ji_enumL (by rfl) T.z_enumerate (ja_cons (je_frz (je_bin op_addA os_add (je_sl (jv 0) jo_none (jo_some je_int)) (je_lst (ja_cons (je_frz (je_callB (cr_sum rfl) cs_sum (by rfl) T.z_sum bt_sum (ja_cons (jv 0) ja_nil))) ja_nil)))) ja_nil)) (jg_tup rfl (jgs_cons (jn sc_law.nd) (jgs_cons (jn sc_law.nd) jgs_nil)))
  (jss_cons (js_set (i := 6) sc_law.nd rfl (by first | exact .inl rfl | exact .inr rfl) (je_fn ((ok__law_draw T).mono (by decide)) hr (by rfl) T.g__law_draw T.f__law_draw.kp T.b__law_draw (takes_of rfl rfl rfl rfl) (ja_cons (je_arg (jv 5)) (ja_cons (je_arg (jv 4)) ja_nil)) (alS (alS al0))))
  (jss_cons (js_set (i := 7) sc_law.nd rfl (by first | exact .inl rfl | exact .inr rfl) (je_fn ((ok__law_digit T).mono (by decide)) hr (by rfl) T.g__law_digit T.f__law_digit.kp T.b__law_digit (takes_of rfl rfl rfl rfl) (ja_cons (je_arg (jv 6)) (ja_cons je_int ja_nil)) (alS (alS al0))))
  (jss_cons (js_set (i := 1) sc_law.nd rfl (by first | exact .inl rfl | exact .inr rfl) (je_lst (ja_cons (je_frz (jv 7)) (ja_cons (je_frz (je_bin op_sub os_sub je_int (jv 7))) (ja_cons (je_frz (je_bin op_mulA os_mul je_str (je_bin op_mod os_mod (jv 7) je_int))) (ja_cons (je_frz (je_tup (ja_cons je_str (ja_cons (je_frz (je_tup (ja_cons je_int (ja_cons (je_frz (jv 7)) ja_nil)))) ja_nil)))) (ja_cons je_non (ja_cons (je_frz (je_tup (ja_cons (je_frz (je_bin op_powA os_pow je_int je_int)) (ja_cons (je_frz (je_tup ja_nil)) ja_nil)))) (ja_cons (je_frz (je_bin op_mulA os_mul (je_tup (ja_cons (je_frz (jv 7)) ja_nil)) je_int)) ja_nil)))))))))
  (jss_one (js_if (PW.pt (jw_or (jt_not (jt_tru (je_fn ((ok__law_right T).mono (by decide)) hr (by rfl) T.g__law_right T.f__law_right.kp T.b__law_right (takes_of rfl rfl rfl rfl) (ja_cons (je_arg (je_ix (ix_any (hu_of hr)) os_ixA (jv 1) (je_fn ((ok__law_digit T).mono (by decide)) hr (by rfl) T.g__law_digit T.f__law_digit.kp T.b__law_digit (takes_of rfl rfl rfl rfl) (ja_cons (je_arg (jv 6)) (ja_cons je_int ja_nil)) (alS (alS al0))) (fun _ _ => rfl))) ja_nil) (alS al0)))) (jw_or1 (jt_not (jt_tru (je_fn ((ok__law_right T).mono (by decide)) hr (by rfl) T.g__law_right T.f__law_right.kp T.b__law_right (takes_of rfl rfl rfl rfl) (ja_cons (je_arg (je_bin op_powA os_pow (je_bin op_powA os_pow (je_bin op_powA os_pow je_int je_int) je_int) je_int)) ja_nil) (alS al0)))))))
  (jss_one (js_rt je_bl))
  jss_nil))))))
  (jss_cons (js_set (i := 1) sc_law.nd rfl (by first | exact .inl rfl | exact .inr rfl) (je_lst (ja_cons (je_frz (je_m0 T.m_BadNumber rfl (hr.mono (by decide)) (by rfl))) (ja_cons (je_frz (je_m0 T.m_BadPoint rfl (hr.mono (by decide)) (by rfl))) (ja_cons (je_frz (je_m0 T.m_BadLine rfl (hr.mono (by decide)) (by rfl))) (ja_cons (je_frz (je_m0 T.m_BadFace rfl (hr.mono (by decide)) (by rfl))) (ja_cons (je_frz (je_m0 T.m_NoSuch rfl (hr.mono (by decide)) (by rfl))) ja_nil)))))))
  (jss_cons (js_set (i := 2) sc_law.nd rfl (by first | exact .inl rfl | exact .inr rfl) (je_lst (ja_cons (je_frz (je_m0 T.m_BadWeb rfl (hr.mono (by decide)) (by rfl))) (ja_cons (je_frz (je_m0 T.m_BadDrawing rfl (hr.mono (by decide)) (by rfl))) (ja_cons (je_frz (je_m0 T.m_BadColours rfl (hr.mono (by decide)) (by rfl))) (ja_cons (je_frz (je_m0 T.m_BadTree rfl (hr.mono (by decide)) (by rfl))) (ja_cons (je_frz (je_m0 T.m_BadGrid rfl (hr.mono (by decide)) (by rfl))) (ja_cons (je_frz (je_m0 T.m_BadBody rfl (hr.mono (by decide)) (by rfl))) (ja_cons (je_frz (je_m0 T.m_BadOrder rfl (hr.mono (by decide)) (by rfl))) ja_nil)))))))))
  (jss_cons (js_set (i := 2) sc_law.nd rfl (by first | exact .inl rfl | exact .inr rfl) (je_bin op_addA os_add (jv 2) (je_lst (ja_cons (je_frz (je_m0 T.m_BadPlan rfl (hr.mono (by decide)) (by rfl))) (ja_cons (je_frz (je_m0 T.m_BadBars rfl (hr.mono (by decide)) (by rfl))) (ja_cons (je_frz (je_m0 T.m_BadSurface rfl (hr.mono (by decide)) (by rfl))) (ja_cons (je_frz (je_m0 T.m_BadMap rfl (hr.mono (by decide)) (by rfl))) (ja_cons (je_frz (je_m0 T.m_BadText rfl (hr.mono (by decide)) (by rfl))) (ja_cons (je_frz (je_m0 T.m_BadPaper rfl (hr.mono (by decide)) (by rfl))) (ja_cons (je_frz (je_m0 T.m_BadDeed rfl (hr.mono (by decide)) (by rfl))) ja_nil))))))))))
  (jss_cons (js_if (PW.pt (jw_or (jt_cmp (op_neD (Room.units hr)) os_ne (je_lc (own := [("e", 9)]) rfl sc_law.nd (ji_seq (jv 1)) (show BlkOk ["script", "some", "others", "thing", "k", "cell", "state", "number", "made", "e", "one", "other", "name"] (defScope s_law) _ _ from ⟨rfl, by decide +kernel, by decide +kernel, by decide +kernel, by decide +kernel⟩) (fun s H A cl fp => (jn sc_law.nd)) (fun s H A cl fp => jts_none) (fun s H A cl fp => (je_att (f := "value") (T.E.fldy (N := exN) rfl) (jv 9)))) (je_bin op_mulA os_mul (je_lst (ja_cons je_non ja_nil)) je_int) (by rfl)) (jw_or1 (jt_cmp (op_neD (Room.units hr)) os_ne (je_lc (own := [("e", 9)]) rfl sc_law.nd (ji_seq (jv 2)) (show BlkOk ["script", "some", "others", "thing", "k", "cell", "state", "number", "made", "e", "one", "other", "name"] (defScope s_law) _ _ from ⟨rfl, by decide +kernel, by decide +kernel, by decide +kernel, by decide +kernel⟩) (fun s H A cl fp => (jn sc_law.nd)) (fun s H A cl fp => jts_none) (fun s H A cl fp => (je_att (f := "place") (T.E.fldy (N := exN) rfl) (jv 9)))) (je_bin op_mulA os_mul (je_lst (ja_cons je_non ja_nil)) je_int) (by rfl)))))
  (jss_one (js_rt je_bl))
  jss_nil)
  (jss_cons (js_for (passes_of rfl) rfl (ji_seq (je_tup (ja_cons je_str (ja_cons (je_frz (je_bin op_powA os_pow je_int je_int)) (ja_cons je_int ja_nil))))) (jn sc_law.nd)
  (jss_cons (js_set (i := 8) sc_law.nd rfl (by first | exact .inl rfl | exact .inr rfl) (je_bin op_addA os_add (je_lc (own := [("one", 10), ("other", 11), ("name", 12)]) rfl sc_law.nd (ji_seq (je_bin op_addA os_add (je_fn ((ok__law_valued T).mono (by decide)) hr (by rfl) T.g__law_valued T.f__law_valued.kp T.b__law_valued (takes_of rfl rfl rfl rfl) (ja_cons (je_arg (jv 3)) ja_nil) (alS al0)) (je_fn ((ok__law_placed T).mono (by decide)) hr (by rfl) T.g__law_placed T.f__law_placed.kp T.b__law_placed (takes_of rfl rfl rfl rfl) (ja_cons (je_arg (jv 3)) ja_nil) (alS al0)))) (show BlkOk ["script", "some", "others", "thing", "k", "cell", "state", "number", "made", "e", "one", "other", "name"] (defScope s_law) _ _ from ⟨rfl, by decide +kernel, by decide +kernel, by decide +kernel, by decide +kernel⟩) (fun s H A cl fp => (jg_tup rfl (jgs_cons (jn sc_law.nd) (jgs_cons (jn sc_law.nd) (jgs_cons (jn sc_law.nd) jgs_nil))))) (fun s H A cl fp => jts_none) (fun s H A cl fp => (jv 10))) (je_lst (ja_cons (je_frz (je_m T.m_NoSuch rfl (hr.mono (by decide)) (by rfl) (ja_cons (je_frz (jv 3)) ja_nil))) (ja_cons (je_frz (je_m T.m_TooMany rfl (hr.mono (by decide)) (by rfl) (ja_cons (je_frz (jv 3)) ja_nil))) ja_nil)))))
  (jss_one (js_if (jt_cmp (op_neD (Room.units hr)) os_ne (je_lc (own := [("e", 9)]) rfl sc_law.nd (ji_seq (jv 8)) (show BlkOk ["script", "some", "others", "thing", "k", "cell", "state", "number", "made", "e", "one", "other", "name"] (defScope s_law) _ _ from ⟨rfl, by decide +kernel, by decide +kernel, by decide +kernel, by decide +kernel⟩) (fun s H A cl fp => (jn sc_law.nd)) (fun s H A cl fp => (jts_one (jt_cmp (op_inY (u65 hr)) os_inY (je_callTy (call_strA (u2 hr)) (cs_str (T.E.strs T.st)) (by rfl) T.z_str bt_str (ja_cons (jv 3) ja_nil)) (je_callTy (call_strA (u2 hr)) (cs_str (T.E.strs T.st)) (by rfl) T.z_str bt_str (ja_cons (jv 9) ja_nil)) (by rfl)))) (fun s H A cl fp => (jv 9))) (je_lst ja_nil) (by rfl))
  (jss_one (js_rt je_bl))
  jss_nil))))
  (jss_one (js_rt je_bl))))))))

end
end K99
end

section
set_option Elab.async false
set_option linter.all false
set_option maxRecDepth 100000
set_option maxHeartbeats 4000000
namespace K99
open PySem PySem.Spec PyProof.Rows L2 FW
theorem sIf_f {u : TF} {x y : SF} {ρ : FW.Env} (h : u ρ = .ok false ρ) : sIf u x y ρ = y ρ := by
  unfold sIf
  rw [h]
theorem sSeq_n {x y : SF} {ρ ρ1 : FW.Env} (h : x ρ = .nx ρ1) : sSeq x y ρ = y ρ1 := by
  unfold sSeq
  rw [h]
theorem tOo_f {u v : TF} {ρ ρ1 : FW.Env} {b : Bool} (h : u ρ = .ok false ρ) (h2 : v ρ = .ok b ρ1) : tOo u v ρ = .ok b ρ1 := by
  unfold tOo
  rw [h]
  exact h2
theorem forL_c {G : GF} {g : SF} {x : FW.D} {xs : List FW.D} {ρ ρ1 ρ2 : FW.Env} (h : G x ρ = some ρ1) (h2 : g ρ1 = .nx ρ2) : forL G g (x :: xs) ρ = forL G g xs ρ2 := by
  show (match G x ρ with
    | none => Fl.stuck
    | some ρ1 => match g ρ1 with
      | .nx ρ2 => forL G g xs ρ2
      | .ct ρ2 => forL G g xs ρ2
      | .bk ρ2 => .nx ρ2
      | .rt m ρ2 => .rt m ρ2
      | .exc c d ρ2 => .exc c d ρ2
      | .stuck => .stuck) = _
  rw [h]
  show (match g ρ1 with
      | .nx ρ2 => forL G g xs ρ2
      | .ct ρ2 => forL G g xs ρ2
      | .bk ρ2 => .nx ρ2
      | .rt m ρ2 => .rt m ρ2
      | .exc c d ρ2 => .exc c d ρ2
      | .stuck => .stuck) = _
  rw [h2]
def Same (d : FW.D) : Prop := mNe (.v d) (.v d) = some (.v (.bool false))
def tRes (m : Option M) : TF := tBo fun ρ => res m ρ
theorem tRes_f {d : FW.D} (h : Same d) (ρ : FW.Env) : tRes (mNe (.v d) (.v d)) ρ = .ok false ρ := by
  rw [show mNe (.v d) (.v d) = some (.v (.bool false)) from h]
  rfl
abbrev tK (i : Nat) : TF := tBo (jBin mNe (jFn F__law_kinds (aCons (jArg (jVar i)) aNil)) (jCall mLst (aCons (jFrz (jVar 3)) (aCons (jC (.str "base")) (aCons (jC (.str "value")) aNil)))))
abbrev tA (f : Str) (i : Nat) : TF := tBo (jBin mNe (jUn (mAtt (fldN exN) f) (jVar i)) (jVar 0))
abbrev bodyV (f : Str) : SF := sSeq (sIf (tOo (tK 1) (tK 2)) (sRt (jC (.bool false))) sNx) (sIf (tOo (tA f 1) (tA f 2)) (sRt (jC (.bool false))) sNx)
abbrev rc (d e : FW.D) (c : Str) : FW.Env := [some (.v d), some (.v e), some (.v e), some (.v (.str c))]
theorem body_ok {f c : Str} {d e : FW.D} (h1 : tK 1 (rc d e c) = .ok false (rc d e c)) (h2 : tK 2 (rc d e c) = .ok false (rc d e c)) (h3 : tA f 1 (rc d e c) = tRes (mNe (.v d) (.v d)) (rc d e c)) (h4 : tA f 2 (rc d e c) = tRes (mNe (.v d) (.v d)) (rc d e c)) (h : Same d) :
    bodyV f (rc d e c) = .nx (rc d e c) := by
  refine (sSeq_n (ρ1 := rc d e c) ?_).trans ?_
  · exact (sIf_f (tOo_f h1 h2)).trans rfl
  · exact (sIf_f (tOo_f (h3.trans (tRes_f h _)) (h4.trans (tRes_f h _)))).trans rfl

theorem b_BadNumber (d : FW.D) (h : Same d) : bodyV "value" (rc d (excM "BadNumber" d "no such number") "BadNumber") = .nx (rc d (excM "BadNumber" d "no such number") "BadNumber") := body_ok (by kernel_rfl) (by kernel_rfl) (by kernel_rfl) (by kernel_rfl) h
theorem b_BadPoint (d : FW.D) (h : Same d) : bodyV "value" (rc d (excM "BadPoint" d "no such point") "BadPoint") = .nx (rc d (excM "BadPoint" d "no such point") "BadPoint") := body_ok (by kernel_rfl) (by kernel_rfl) (by kernel_rfl) (by kernel_rfl) h
theorem b_BadLine (d : FW.D) (h : Same d) : bodyV "value" (rc d (excM "BadLine" d "no such line") "BadLine") = .nx (rc d (excM "BadLine" d "no such line") "BadLine") := body_ok (by kernel_rfl) (by kernel_rfl) (by kernel_rfl) (by kernel_rfl) h
theorem b_BadFace (d : FW.D) (h : Same d) : bodyV "value" (rc d (excM "BadFace" d "no such face") "BadFace") = .nx (rc d (excM "BadFace" d "no such face") "BadFace") := body_ok (by kernel_rfl) (by kernel_rfl) (by kernel_rfl) (by kernel_rfl) h
theorem b_BadWeb (d : FW.D) (h : Same d) : bodyV "place" (rc d (excM "BadWeb" d "no such web") "BadWeb") = .nx (rc d (excM "BadWeb" d "no such web") "BadWeb") := body_ok (by kernel_rfl) (by kernel_rfl) (by kernel_rfl) (by kernel_rfl) h
theorem b_BadDrawing (d : FW.D) (h : Same d) : bodyV "place" (rc d (excM "BadDrawing" d "no such drawing") "BadDrawing") = .nx (rc d (excM "BadDrawing" d "no such drawing") "BadDrawing") := body_ok (by kernel_rfl) (by kernel_rfl) (by kernel_rfl) (by kernel_rfl) h
theorem b_BadColours (d : FW.D) (h : Same d) : bodyV "place" (rc d (excM "BadColours" d "no such colours") "BadColours") = .nx (rc d (excM "BadColours" d "no such colours") "BadColours") := body_ok (by kernel_rfl) (by kernel_rfl) (by kernel_rfl) (by kernel_rfl) h
theorem b_BadTree (d : FW.D) (h : Same d) : bodyV "place" (rc d (excM "BadTree" d "no such tree") "BadTree") = .nx (rc d (excM "BadTree" d "no such tree") "BadTree") := body_ok (by kernel_rfl) (by kernel_rfl) (by kernel_rfl) (by kernel_rfl) h
theorem b_BadGrid (d : FW.D) (h : Same d) : bodyV "place" (rc d (excM "BadGrid" d "no such grid") "BadGrid") = .nx (rc d (excM "BadGrid" d "no such grid") "BadGrid") := body_ok (by kernel_rfl) (by kernel_rfl) (by kernel_rfl) (by kernel_rfl) h
theorem b_BadBody (d : FW.D) (h : Same d) : bodyV "place" (rc d (excM "BadBody" d "no such body") "BadBody") = .nx (rc d (excM "BadBody" d "no such body") "BadBody") := body_ok (by kernel_rfl) (by kernel_rfl) (by kernel_rfl) (by kernel_rfl) h
theorem b_BadOrder (d : FW.D) (h : Same d) : bodyV "place" (rc d (excM "BadOrder" d "no such order") "BadOrder") = .nx (rc d (excM "BadOrder" d "no such order") "BadOrder") := body_ok (by kernel_rfl) (by kernel_rfl) (by kernel_rfl) (by kernel_rfl) h
theorem b_BadPlan (d : FW.D) (h : Same d) : bodyV "place" (rc d (excM "BadPlan" d "no such plan") "BadPlan") = .nx (rc d (excM "BadPlan" d "no such plan") "BadPlan") := body_ok (by kernel_rfl) (by kernel_rfl) (by kernel_rfl) (by kernel_rfl) h
theorem b_BadBars (d : FW.D) (h : Same d) : bodyV "place" (rc d (excM "BadBars" d "no such bars") "BadBars") = .nx (rc d (excM "BadBars" d "no such bars") "BadBars") := body_ok (by kernel_rfl) (by kernel_rfl) (by kernel_rfl) (by kernel_rfl) h
theorem b_BadSurface (d : FW.D) (h : Same d) : bodyV "place" (rc d (excM "BadSurface" d "no such surface") "BadSurface") = .nx (rc d (excM "BadSurface" d "no such surface") "BadSurface") := body_ok (by kernel_rfl) (by kernel_rfl) (by kernel_rfl) (by kernel_rfl) h
theorem b_BadMap (d : FW.D) (h : Same d) : bodyV "place" (rc d (excM "BadMap" d "no such permutation") "BadMap") = .nx (rc d (excM "BadMap" d "no such permutation") "BadMap") := body_ok (by kernel_rfl) (by kernel_rfl) (by kernel_rfl) (by kernel_rfl) h
theorem b_BadText (d : FW.D) (h : Same d) : bodyV "place" (rc d (excM "BadText" d "no such text") "BadText") = .nx (rc d (excM "BadText" d "no such text") "BadText") := body_ok (by kernel_rfl) (by kernel_rfl) (by kernel_rfl) (by kernel_rfl) h
theorem b_BadPaper (d : FW.D) (h : Same d) : bodyV "place" (rc d (excM "BadPaper" d "no such paper") "BadPaper") = .nx (rc d (excM "BadPaper" d "no such paper") "BadPaper") := body_ok (by kernel_rfl) (by kernel_rfl) (by kernel_rfl) (by kernel_rfl) h
theorem b_BadDeed (d : FW.D) (h : Same d) : bodyV "place" (rc d (excM "BadDeed" d "no such deed") "BadDeed") = .nx (rc d (excM "BadDeed" d "no such deed") "BadDeed") := body_ok (by kernel_rfl) (by kernel_rfl) (by kernel_rfl) (by kernel_rfl) h
def lstV (d : FW.D) : List FW.D := [.tuple [excM "BadNumber" d "no such number", excM "BadNumber" d "no such number", .str "BadNumber"], .tuple [excM "BadPoint" d "no such point", excM "BadPoint" d "no such point", .str "BadPoint"], .tuple [excM "BadLine" d "no such line", excM "BadLine" d "no such line", .str "BadLine"], .tuple [excM "BadFace" d "no such face", excM "BadFace" d "no such face", .str "BadFace"]]
theorem loopV (d : FW.D) (h : Same d) (x y z : Option M) : forL (gT [gN 1, gN 2, gN 3]) (bodyV "value") (lstV d) [some (.v d), x, y, z] = .nx (rc d (excM "BadFace" d "no such face") "BadFace") := by
  refine (forL_c (ρ1 := rc d (excM "BadNumber" d "no such number") "BadNumber") (by kernel_rfl) (b_BadNumber d h)).trans ?_
  refine (forL_c (ρ1 := rc d (excM "BadPoint" d "no such point") "BadPoint") (by kernel_rfl) (b_BadPoint d h)).trans ?_
  refine (forL_c (ρ1 := rc d (excM "BadLine" d "no such line") "BadLine") (by kernel_rfl) (b_BadLine d h)).trans ?_
  refine (forL_c (ρ1 := rc d (excM "BadFace" d "no such face") "BadFace") (by kernel_rfl) (b_BadFace d h)).trans ?_
  rfl
def lstP (d : FW.D) : List FW.D := [.tuple [excM "BadWeb" d "no such web", excM "BadWeb" d "no such web", .str "BadWeb"], .tuple [excM "BadDrawing" d "no such drawing", excM "BadDrawing" d "no such drawing", .str "BadDrawing"], .tuple [excM "BadColours" d "no such colours", excM "BadColours" d "no such colours", .str "BadColours"], .tuple [excM "BadTree" d "no such tree", excM "BadTree" d "no such tree", .str "BadTree"], .tuple [excM "BadGrid" d "no such grid", excM "BadGrid" d "no such grid", .str "BadGrid"], .tuple [excM "BadBody" d "no such body", excM "BadBody" d "no such body", .str "BadBody"], .tuple [excM "BadOrder" d "no such order", excM "BadOrder" d "no such order", .str "BadOrder"], .tuple [excM "BadPlan" d "no such plan", excM "BadPlan" d "no such plan", .str "BadPlan"], .tuple [excM "BadBars" d "no such bars", excM "BadBars" d "no such bars", .str "BadBars"], .tuple [excM "BadSurface" d "no such surface", excM "BadSurface" d "no such surface", .str "BadSurface"], .tuple [excM "BadMap" d "no such permutation", excM "BadMap" d "no such permutation", .str "BadMap"], .tuple [excM "BadText" d "no such text", excM "BadText" d "no such text", .str "BadText"], .tuple [excM "BadPaper" d "no such paper", excM "BadPaper" d "no such paper", .str "BadPaper"], .tuple [excM "BadDeed" d "no such deed", excM "BadDeed" d "no such deed", .str "BadDeed"]]
theorem loopP (d : FW.D) (h : Same d) (x y z : Option M) : forL (gT [gN 1, gN 2, gN 3]) (bodyV "place") (lstP d) [some (.v d), x, y, z] = .nx (rc d (excM "BadDeed" d "no such deed") "BadDeed") := by
  refine (forL_c (ρ1 := rc d (excM "BadWeb" d "no such web") "BadWeb") (by kernel_rfl) (b_BadWeb d h)).trans ?_
  refine (forL_c (ρ1 := rc d (excM "BadDrawing" d "no such drawing") "BadDrawing") (by kernel_rfl) (b_BadDrawing d h)).trans ?_
  refine (forL_c (ρ1 := rc d (excM "BadColours" d "no such colours") "BadColours") (by kernel_rfl) (b_BadColours d h)).trans ?_
  refine (forL_c (ρ1 := rc d (excM "BadTree" d "no such tree") "BadTree") (by kernel_rfl) (b_BadTree d h)).trans ?_
  refine (forL_c (ρ1 := rc d (excM "BadGrid" d "no such grid") "BadGrid") (by kernel_rfl) (b_BadGrid d h)).trans ?_
  refine (forL_c (ρ1 := rc d (excM "BadBody" d "no such body") "BadBody") (by kernel_rfl) (b_BadBody d h)).trans ?_
  refine (forL_c (ρ1 := rc d (excM "BadOrder" d "no such order") "BadOrder") (by kernel_rfl) (b_BadOrder d h)).trans ?_
  refine (forL_c (ρ1 := rc d (excM "BadPlan" d "no such plan") "BadPlan") (by kernel_rfl) (b_BadPlan d h)).trans ?_
  refine (forL_c (ρ1 := rc d (excM "BadBars" d "no such bars") "BadBars") (by kernel_rfl) (b_BadBars d h)).trans ?_
  refine (forL_c (ρ1 := rc d (excM "BadSurface" d "no such surface") "BadSurface") (by kernel_rfl) (b_BadSurface d h)).trans ?_
  refine (forL_c (ρ1 := rc d (excM "BadMap" d "no such permutation") "BadMap") (by kernel_rfl) (b_BadMap d h)).trans ?_
  refine (forL_c (ρ1 := rc d (excM "BadText" d "no such text") "BadText") (by kernel_rfl) (b_BadText d h)).trans ?_
  refine (forL_c (ρ1 := rc d (excM "BadPaper" d "no such paper") "BadPaper") (by kernel_rfl) (b_BadPaper d h)).trans ?_
  refine (forL_c (ρ1 := rc d (excM "BadDeed" d "no such deed") "BadDeed") (by kernel_rfl) (b_BadDeed d h)).trans ?_
  rfl

abbrev r1 (d e : FW.D) (x y : Option M) : FW.Env := [some (.v d), some (.v e), x, y]
abbrev tK2 (a b : Str) : TF := tBo (jBin mNe (jFn F__law_kinds (aCons (jArg (jVar 1)) aNil)) (jCall mLst (aCons (jC (.str a)) (aCons (jC (.str b)) aNil))))
abbrev bodyO (a b f : Str) : SF := sIf (tOo (tK2 a b) (tA f 1)) (sRt (jC (.bool false))) sNx
theorem bodyO_ok {a b f : Str} {d e : FW.D} {x y : Option M} (h1 : tK2 a b (r1 d e x y) = .ok false (r1 d e x y)) (h3 : tA f 1 (r1 d e x y) = tRes (mNe (.v d) (.v d)) (r1 d e x y)) (h : Same d) : bodyO a b f (r1 d e x y) = .nx (r1 d e x y) :=
  (sIf_f (tOo_f h1 (h3.trans (tRes_f h _)))).trans rfl
theorem loopN (d : FW.D) (h : Same d) (x y z : Option M) : forL (gN 1) (bodyO "NoSuch" "lookup" "value") [excM "NoSuch" d "nothing so called", excM "NoSuch" d "nothing so called"] [some (.v d), x, y, z] = .nx (r1 d (excM "NoSuch" d "nothing so called") y z) := by
  refine (forL_c (ρ1 := r1 d (excM "NoSuch" d "nothing so called") y z) (by kernel_rfl) (bodyO_ok (by kernel_rfl) (by kernel_rfl) h)).trans ?_
  refine (forL_c (ρ1 := r1 d (excM "NoSuch" d "nothing so called") y z) (by kernel_rfl) (bodyO_ok (by kernel_rfl) (by kernel_rfl) h)).trans ?_
  rfl
theorem loopT (d : FW.D) (h : Same d) (x y z : Option M) : forL (gN 1) (bodyO "TooMany" "overflow" "most") [excM "TooMany" d "too many", excM "TooMany" d "too many"] [some (.v d), x, y, z] = .nx (r1 d (excM "TooMany" d "too many") y z) := by
  refine (forL_c (ρ1 := r1 d (excM "TooMany" d "too many") y z) (by kernel_rfl) (bodyO_ok (by kernel_rfl) (by kernel_rfl) h)).trans ?_
  refine (forL_c (ρ1 := r1 d (excM "TooMany" d "too many") y z) (by kernel_rfl) (bodyO_ok (by kernel_rfl) (by kernel_rfl) h)).trans ?_
  rfl
theorem sFor_ok {F : IF} {G : GF} {g : SF} {ρ ρ1 ρ2 : FW.Env} {ds : List FW.D} (h : F ρ = .ok ds ρ1) (h2 : forL G g ds ρ1 = .nx ρ2) : sFor F G g ρ = .nx ρ2 := by
  unfold sFor
  rw [h]
  exact h2
theorem fnF_rt {g : SF} {L : List Nat} {n k : Nat} {ms : List M} {m : M} {ρ : FW.Env} (h : g (ms.map some ++ List.replicate (n - k) none) = .rt m ρ) : fnF g L n k ms = .ok m (rep L k ρ) := by
  unfold fnF
  rw [h]
theorem right_ok (d : FW.D) (h : Same d) : F__law_right [.v d] = .ok (.v (.bool true)) [some (.v d)] := by
  have e : g__law_right [some (.v d), none, none, none] = .rt (.v (.bool true)) (r1 d (excM "TooMany" d "too many") (some (.v (excM "BadDeed" d "no such deed"))) (some (.v (.str "BadDeed")))) := by
    unfold g__law_right
    refine (sSeq_n (sFor_ok (ρ1 := [some (.v d), none, none, none]) (ds := lstV d) (by kernel_rfl) (loopV d h none none none))).trans ?_
    refine (sSeq_n (sFor_ok (ρ1 := rc d (excM "BadFace" d "no such face") "BadFace") (ds := lstP d) (by kernel_rfl) (loopP d h _ _ _))).trans ?_
    refine (sSeq_n (sFor_ok (ρ1 := rc d (excM "BadDeed" d "no such deed") "BadDeed") (ds := [excM "NoSuch" d "nothing so called", excM "NoSuch" d "nothing so called"]) (by kernel_rfl) (loopN d h _ _ _))).trans ?_
    refine (sSeq_n (sFor_ok (ρ1 := r1 d (excM "NoSuch" d "nothing so called") (some (.v (excM "BadDeed" d "no such deed"))) (some (.v (.str "BadDeed")))) (ds := [excM "TooMany" d "too many", excM "TooMany" d "too many"]) (by kernel_rfl) (loopT d h _ _ _))).trans ?_
    rfl
  exact fnF_rt (L := [0]) (n := 4) (k := 1) (ms := [.v d]) e
end K99
end

section
set_option Elab.async false
set_option linter.all false
set_option maxRecDepth 100000
set_option maxHeartbeats 4000000
namespace K99
open PySem PySem.Spec PyProof.Rows L2 FW
theorem same_of {d : FW.D} (h : SeqAt.shaped d = true) : Same d := by
  unfold Same mNe both
  show ((eqD d d).map (!·)).map (fun k => M.v (.bool k)) = _
  unfold eqD
  rw [h, SeqAt.eqv_refl d (SeqAt.canLay_of_shaped h)]
  rfl
theorem same_int (n : Int) : Same (.int n) := same_of rfl
def Ev (f : JF) (ρ : FW.Env) (m : M) : Prop := ∃ s, f ρ = .ok s ρ ∧ s.get ρ = some m
def Tv (f : JF) (ρ : FW.Env) (m : M) : Prop := f ρ = .ok (.tmp m) ρ
theorem Tv.ev {f : JF} {ρ : FW.Env} {m : M} (h : Tv f ρ m) : Ev f ρ m := ⟨_, h, rfl⟩
theorem ev_c {d : FW.D} {ρ : FW.Env} : Ev (jC d) ρ (.v d) := ⟨_, rfl, rfl⟩
theorem ev_v {i : Nat} {ρ : FW.Env} {m : M} (h : slotOf ρ i = some m) : Ev (jVar i) ρ m := ⟨.slot i, by unfold jVar; rw [h], h⟩
theorem tv_bin {F : M → M → Option M} {f g : JF} {ρ : FW.Env} {a b m : M} (h1 : Ev f ρ a) (h2 : Ev g ρ b) (h : F a b = some m) : Tv (jBin F f g) ρ m := by
  obtain ⟨s, e1, e2⟩ := h1
  obtain ⟨s', e3, e4⟩ := h2
  show ((f ρ).bind fun s ρ1 => (g ρ1).bind fun s' ρ2 => app2 F (s.get ρ2) (s'.get ρ2) ρ2) = _
  rw [e1]
  show ((g ρ).bind fun s' ρ2 => app2 F (s.get ρ2) (s'.get ρ2) ρ2) = _
  rw [e3]
  show app2 F (s.get ρ) (s'.get ρ) ρ = _
  rw [e2, e4]
  show res (F a b) ρ = _
  rw [h]
  rfl
theorem s_set {i : Nat} {f : JF} {ρ : FW.Env} {m : M} (h : Tv f ρ m) : sSet i f ρ = .nx (ρ.set i (some m)) := by
  unfold sSet
  rw [show f ρ = _ from h]
theorem s_rt {f : JF} {ρ : FW.Env} {m : M} (h : Tv f ρ m) : sRt f ρ = .rt m ρ := by
  unfold sRt
  rw [show f ρ = _ from h]
theorem mul_i {a b : Int} (h : mulOk a b = true) : mMul (.v (.int a)) (.v (.int b)) = some (.v (.int (a * b))) := by
  show (if mulOk a b then some (M.v (.int (a * b))) else none) = _
  rw [h]; rfl
theorem mulOk_l {a b : Int} (h1 : -(2 ^ 64) < a) (h2 : a < 2 ^ 64) : mulOk a b = true := by
  unfold mulOk
  rw [decide_eq_true h1, decide_eq_true h2]; rfl
theorem mulOk_r {a b : Int} (h1 : -(2 ^ 64) < b) (h2 : b < 2 ^ 64) : mulOk a b = true := by
  unfold mulOk
  rw [decide_eq_true h1, decide_eq_true h2]
  simp
theorem add_i {a b : Int} : mAdd (.v (.int a)) (.v (.int b)) = some (.v (.int (a + b))) := rfl
theorem mod_i {a b : Int} (h : 0 < b) : mMod (.v (.int a)) (.v (.int b)) = some (.v (.int (a % b))) := by
  show (if decide (0 < b) then some (M.v (.int (a % b))) else none) = _
  rw [decide_eq_true h]; rfl
theorem div_i {a b : Int} (h : 0 < b) (h2 : b < 1073741824) : mDiv (.v (.int a)) (.v (.int b)) = some (.v (.int (a / b))) := by
  show (if decide (0 < b) && (decide (b < 1073741824) || decide (b.natAbs.log2 < 9000)) then some (M.v (.int (a / b))) else none) = _
  rw [decide_eq_true h, decide_eq_true h2]; rfl
theorem tab_i (k : Int) : ∃ p : Int, 0 < p ∧ p < 2 ^ 32 ∧ mIxA (.ml [.int 1000000007, .int 998244353, .int 2147483629, .int 1000000009]) (.v (.int (k % 4))) = some (.v (.int p)) := by
  have : k % 4 = 0 ∨ k % 4 = 1 ∨ k % 4 = 2 ∨ k % 4 = 3 := by omega
  rcases this with h | h | h | h <;> rw [h]
  · exact ⟨1000000007, by decide, by decide, rfl⟩
  · exact ⟨998244353, by decide, by decide, rfl⟩
  · exact ⟨2147483629, by decide, by decide, rfl⟩
  · exact ⟨1000000009, by decide, by decide, rfl⟩
theorem mixed_ok (cell k : Int) (h0 : 0 ≤ k) (h1 : k < 1000000) : ∃ n : Int, 0 ≤ n ∧ n < 2147483647 ∧ F__law_mixed [.v (.int cell), .v (.int k)] = .ok (.v (.int n)) [some (.v (.int cell)), some (.v (.int k))] := by
  obtain ⟨p, hp0, hp1, hp⟩ := tab_i k
  have hm0 := Int.emod_nonneg cell (show p ≠ 0 by omega)
  have hm1 := Int.emod_lt_of_pos cell hp0
  let ρ : FW.Env := [some (.v (.int cell)), some (.v (.int k)), none]
  let q : Int := cell % p + 7919 * k + 13
  have hq0 : 0 ≤ q := by show 0 ≤ cell % p + 7919 * k + 13; omega
  have hq1 : q < 2 ^ 64 := by show cell % p + 7919 * k + 13 < 2 ^ 64; omega
  let ρ1 : FW.Env := [some (.v (.int cell)), some (.v (.int k)), some (.v (.int q))]
  refine ⟨q * q % 2147483647 * 48271 % 2147483647, Int.emod_nonneg _ (by decide), Int.emod_lt_of_pos _ (by decide), ?_⟩
  refine fnF_rt (L := [0, 1]) (n := 3) (k := 2) (ms := [.v (.int cell), .v (.int k)]) (ρ := ρ1) ?_
  show g__law_mixed ρ = _
  unfold g__law_mixed
  refine (sSeq_n (ρ1 := ρ1) (s_set ?_)).trans (s_rt ?_)
  · refine tv_bin (tv_bin (tv_bin (ev_v rfl) (tv_bin (Tv.ev (m := .ml [.int 1000000007, .int 998244353, .int 2147483629, .int 1000000009]) rfl) (tv_bin (ev_v rfl) ev_c (mod_i (by decide))).ev hp).ev (mod_i hp0)).ev (tv_bin ev_c (ev_v rfl) (mul_i (mulOk_l (by decide) (by decide)))).ev add_i).ev ev_c add_i
  · exact tv_bin (tv_bin (tv_bin (tv_bin (ev_v rfl) (ev_v rfl) (mul_i (mulOk_l (by omega) hq1))).ev ev_c (mod_i (by decide))).ev ev_c (mul_i (mulOk_r (by decide) (by decide)))).ev ev_c (mod_i (by decide))
theorem ev_if {u : TF} {f g : JF} {ρ : FW.Env} {b : Bool} {m m' : M} (h : u ρ = .ok b ρ) (h1 : Ev f ρ m) (h2 : Ev g ρ m') : Ev (jIf u f g) ρ (if b then m else m') := by
  cases b
  · obtain ⟨s, e, e2⟩ := h2
    exact ⟨s, by unfold jIf; rw [h]; exact e, e2⟩
  · obtain ⟨s, e, e2⟩ := h1
    exact ⟨s, by unfold jIf; rw [h]; exact e, e2⟩
theorem set_get : ∀ {ρ : FW.Env} {i : Nat} {m : M}, slotOf ρ i = some m → ρ.set i (some m) = ρ := by
  intro ρ i m h
  have := slotOf_some h
  obtain ⟨hl, e⟩ := List.getElem?_eq_some_iff.mp this
  apply List.ext_getElem (by simp)
  intro j h1 h2
  rw [List.getElem_set]
  split
  · rename_i hj; subst hj; exact e.symm
  · rfl
theorem tv_frz {f : JF} {ρ : FW.Env} {d : FW.D} (h : Ev f ρ (.v d)) : Tv (jFrz f) ρ (.v d) := by
  obtain ⟨s, e, e2⟩ := h
  unfold Tv jFrz
  rw [e]
  cases s with
  | slot i =>
    have e2 : slotOf ρ i = some (.v d) := e2
    show (match slotOf ρ i with
      | some m => match m.asD with
        | some d => Res.ok (Src.tmp (.v d)) (ρ.set i (some (.v d)))
        | none => .stuck
      | none => .stuck) = _
    rw [e2]
    show Res.ok (Src.tmp (.v d)) (ρ.set i (some (.v d))) = _
    rw [set_get e2]
  | tmp m =>
    have e2 : some m = some (M.v d) := e2
    cases e2
    rfl
def Av (g : AF) (ρ : FW.Env) (ds : List FW.D) : Prop := g ρ = .ok (ds.map fun d => .tmp (.v d)) ρ
theorem av_nil {ρ : FW.Env} : Av aNil ρ [] := rfl
theorem av_cons {f : JF} {g : AF} {ρ : FW.Env} {d : FW.D} {ds : List FW.D} (h : Tv f ρ (.v d)) (h2 : Av g ρ ds) : Av (aCons f g) ρ (d :: ds) := by
  unfold Av aCons
  rw [show f ρ = _ from h]
  show ((g ρ).bind fun ss ρ2 => Res.ok (Src.tmp (.v d) :: ss) ρ2) = _
  rw [show g ρ = _ from h2]
  rfl
theorem t_bo {f : JF} {ρ : FW.Env} {b : Bool} (h : Ev f ρ (.v (.bool b))) : tBo f ρ = .ok b ρ := by
  obtain ⟨s, e, e2⟩ := h
  unfold tBo
  rw [e]
  show boolR (isBool (s.get ρ)) ρ = _
  rw [e2]
  rfl
theorem ge_i {a b : Int} : ∃ c, mGe (.v (.int a)) (.v (.int b)) = some (.v (.bool c)) := ⟨_, rfl⟩
abbrev stM (l c t : Int) : M := .md [(.inr "left", .int l), (.inr "cell", .int c), (.inr "turns", .int t)]
theorem draw_ok (cell k : Int) : ∃ l : Int, F__law_draw [.v (.int cell), .v (.int k)] = .ok (stM l cell (1000 * k)) [some (.v (.int cell)), some (.v (.int k))] := by
  let ρ : FW.Env := [some (.v (.int cell)), some (.v (.int k))]
  have hm : mMul (.v (.int 1000)) (.v (.int k)) = some (.v (.int (1000 * k))) := mul_i (mulOk_l (by decide) (by decide))
  obtain ⟨c, hc⟩ := ge_i (a := cell) (b := 10 ^ 18)
  have hi := ev_if (ρ := ρ) (f := jVar 0) (g := jC (.int 0)) (t_bo (tv_bin (F := mGe) (ev_v (i := 0) (m := .v (.int cell)) rfl) (tv_bin (F := mPow) (ev_c (d := .int 10)) (ev_c (d := .int 18)) (m := .v (.int (10 ^ 18))) (by kernel_rfl)).ev hc).ev) (ev_v (m := .v (.int cell)) rfl) ev_c
  have hi2 : ∃ l : Int, Ev (jIf (tBo (jBin mGe (jVar 0) (jBin mPow (jC (.int 10)) (jC (.int 18))))) (jVar 0) (jC (.int 0))) ρ (.v (.int l)) := by
    cases c
    · exact ⟨0, hi⟩
    · exact ⟨cell, hi⟩
  obtain ⟨l, hl⟩ := hi2
  refine ⟨l, fnF_rt (L := [0, 1]) (n := 2) (k := 2) (ms := [.v (.int cell), .v (.int k)]) (ρ := ρ) ?_⟩
  show g__law_draw ρ = _
  unfold g__law_draw
  refine s_rt ?_
  unfold Tv jDisp
  rw [show aCons _ _ ρ = _ from av_cons (tv_frz hl) (av_cons (tv_frz (ev_v (i := 0) (m := .v (.int cell)) rfl)) (av_cons (tv_frz (tv_bin (F := mMul) (ev_c (d := .int 1000)) (ev_v (i := 1) (m := .v (.int k)) rfl) hm).ev) av_nil))]
  rfl
abbrev rD (l c t b : Int) (x y : Option M) : FW.Env := [some (stM l c t), some (.v (.int b)), x, y]
theorem gl {l c t b : Int} {x y : Option M} : Tv (jBin mIxA (jVar 0) (jC (.str "left"))) (rD l c t b x y) (.v (.int l)) := tv_bin (ev_v rfl) ev_c rfl
theorem gt {l c t b : Int} {x y : Option M} : Tv (jBin mIxA (jVar 0) (jC (.str "turns"))) (rD l c t b x y) (.v (.int t)) := tv_bin (ev_v rfl) ev_c rfl
theorem gc {l c t b : Int} {x y : Option M} : Tv (jBin mIxA (jVar 0) (jC (.str "cell"))) (rD l c t b x y) (.v (.int c)) := tv_bin (ev_v rfl) ev_c rfl
theorem s_put {i : Nat} {f g : JF} {ρ : FW.Env} {d k : FW.D} {a a' : M} (h : Ev f ρ (.v d)) (h2 : Ev g ρ (.v k)) (h3 : slotOf ρ i = some a) (h4 : setM a k d = some a') : sPut i f g ρ = .nx (ρ.set i (some a')) := by
  unfold sPut
  rw [show jFrz f ρ = _ from tv_frz h]
  show (match slotOf ρ i with
    | some _ => match jFrz g ρ with
      | .ok (.tmp (.v k)) ρ2 => match (slotOf ρ2 i).bind fun a => setM a k d with
        | some a' => Fl.nx (ρ2.set i (some a'))
        | none => .stuck
      | .exc c d ρ2 => .exc c d ρ2
      | _ => .stuck
    | none => .stuck) = _
  rw [h3, show jFrz g ρ = _ from tv_frz h2]
  show (match (slotOf ρ i).bind fun a => setM a k d with
        | some a' => Fl.nx (ρ.set i (some a'))
        | none => .stuck) = _
  rw [h3]
  show (match setM a k d with
        | some a' => Fl.nx (ρ.set i (some a'))
        | none => .stuck) = _
  rw [h4]
theorem tv_fn2 {F : FF} {f g : JF} {ρ : FW.Env} {d e : FW.D} {m : M} {ms : List (Option M)} (h1 : Tv f ρ (.v d)) (h2 : Tv g ρ (.v e)) (h : F [.v d, .v e] = .ok m ms) : Tv (jFn F (aCons f (aCons g aNil))) ρ m := by
  unfold Tv jFn
  rw [show aCons _ _ ρ = _ from av_cons h1 (av_cons h2 av_nil)]
  show frR _ ρ (F [.v d, .v e]) = _
  rw [h]
  rcases ms with _ | ⟨a, _ | ⟨b, ms⟩⟩ <;> rfl
theorem tv_arg {f : JF} {ρ : FW.Env} {d : FW.D} (h : Tv f ρ (.v d)) : Tv (jArg f) ρ (.v d) := by
  unfold Tv jArg
  rw [show f ρ = _ from h]
  rfl
def turn : SF := sSeq (sPut 0 (jBin mAdd (jBin mIxA (jVar 0) (jC (.str "turns"))) (jC (.int 1))) (jC (.str "turns"))) (sPut 0 (jBin mAdd (jBin mMul (jBin mIxA (jVar 0) (jC (.str "left"))) (jC (.int 2147483647))) (jFn F__law_mixed (aCons (jArg (jBin mIxA (jVar 0) (jC (.str "cell")))) (aCons (jArg (jBin mIxA (jVar 0) (jC (.str "turns")))) aNil)))) (jC (.str "left")))
theorem turn_ok (l c t b : Int) (x y : Option M) (h0 : 0 ≤ t) (h1 : t < 900000) : ∃ l', turn (rD l c t b x y) = .nx (rD l' c (t + 1) b x y) := by
  obtain ⟨n, _, _, hn⟩ := mixed_ok c (t + 1) (by omega) (by omega)
  refine ⟨l * 2147483647 + n, ?_⟩
  unfold turn
  refine (sSeq_n (ρ1 := rD l c (t + 1) b x y) (s_put (tv_bin gt.ev ev_c add_i).ev ev_c (a := stM l c t) rfl rfl)).trans ?_
  exact s_put (tv_bin (tv_bin gl.ev ev_c (mul_i (mulOk_r (by decide) (by decide)))).ev (tv_fn2 (tv_arg gc) (tv_arg gt) hn).ev add_i).ev ev_c (a := stM l c (t + 1)) rfl rfl
theorem four_ok (l c t b : Int) (x y : Option M) (h0 : 0 ≤ t) (h1 : t < 800000) : ∃ l' y', forL (gN 3) turn (intsFrom 0 4) (rD l c t b x y) = .nx (rD l' c (t + 4) b x y') := by
  obtain ⟨l1, e1⟩ := turn_ok l c t b x (some (.v (.int 0))) h0 (by omega)
  obtain ⟨l2, e2⟩ := turn_ok l1 c (t + 1) b x (some (.v (.int 1))) (by omega) (by omega)
  obtain ⟨l3, e3⟩ := turn_ok l2 c (t + 1 + 1) b x (some (.v (.int 2))) (by omega) (by omega)
  obtain ⟨l4, e4⟩ := turn_ok l3 c (t + 1 + 1 + 1) b x (some (.v (.int 3))) (by omega) (by omega)
  refine ⟨l4, some (.v (.int 3)), ?_⟩
  show forL (gN 3) turn [.int 0, .int 1, .int 2, .int 3] (rD l c t b x y) = _
  refine (forL_c rfl e1).trans ?_
  refine (forL_c rfl e2).trans ?_
  refine (forL_c rfl e3).trans ?_
  refine (forL_c rfl e4).trans ?_
  have e : t + 1 + 1 + 1 + 1 = t + 4 := by omega
  rw [e]
  rfl
theorem sIf_t {u : TF} {x y : SF} {ρ : FW.Env} (h : u ρ = .ok true ρ) : sIf u x y ρ = x ρ := by
  unfold sIf
  rw [h]
theorem digit_ok (l c t b : Int) (h0 : 0 ≤ t) (h1 : t < 800000) (hb : 0 < b) (hb2 : b < 1073741824) : ∃ n l' t' : Int, 0 ≤ n ∧ n < b ∧ 0 ≤ t' ∧ t' ≤ t + 4 ∧ F__law_digit [stM l c t, .v (.int b)] = .ok (.v (.int n)) [some (stM l' c t'), some (.v (.int b))] := by
  have tail : ∀ (l t : Int) (y : Option M), ∃ n l', 0 ≤ n ∧ n < b ∧ sSeq (sSet 2 (jBin mMod (jBin mIxA (jVar 0) (jC (.str "left"))) (jVar 1))) (sSeq (sPut 0 (jBin mDiv (jBin mIxA (jVar 0) (jC (.str "left"))) (jVar 1)) (jC (.str "left"))) (sRt (jTk (jVar 2)))) (rD l c t b none y) = .rt (.v (.int n)) (rD l' c t b (some (.v (.int n))) y) := by
    intro l t y
    refine ⟨l % b, l / b, Int.emod_nonneg _ (by omega), Int.emod_lt_of_pos _ hb, ?_⟩
    refine (sSeq_n (ρ1 := rD l c t b (some (.v (.int (l % b)))) y) (s_set (tv_bin gl.ev (ev_v rfl) (mod_i hb)))).trans ?_
    refine (sSeq_n (ρ1 := rD (l / b) c t b (some (.v (.int (l % b)))) y) (s_put (tv_bin gl.ev (ev_v rfl) (div_i hb hb2)).ev ev_c (a := stM l c t) rfl rfl)).trans ?_
    rfl
  have head : ∃ l' t' y', 0 ≤ t' ∧ t' ≤ t + 4 ∧ sIf (tBo (jBin mEq (jBin mIxA (jVar 0) (jC (.str "left"))) (jC (.int 0)))) (sFor (iFrom rng1 (aCons (jC (.int 4)) aNil)) (gN 3) turn) sNx (rD l c t b none none) = .nx (rD l' c t' b none y') := by
    by_cases h : l = 0
    · obtain ⟨l', y', e⟩ := four_ok l c t b none none h0 h1
      refine ⟨l', t + 4, y', by omega, by omega, ?_⟩
      refine (sIf_t (t_bo (tv_bin gl.ev ev_c ?_).ev)).trans ?_
      · subst h; rfl
      · exact sFor_ok (ds := intsFrom 0 4) (by kernel_rfl) e
    · refine ⟨l, t, none, h0, by omega, ?_⟩
      refine (sIf_f (t_bo (tv_bin gl.ev ev_c ?_).ev)).trans rfl
      show some (M.v (.bool (l == 0))) = _
      rw [beq_eq_false_iff_ne.mpr h]
  obtain ⟨l1, t1, y1, ht0, ht1, e1⟩ := head
  obtain ⟨n, l2, hn0, hn1, e2⟩ := tail l1 t1 y1
  refine ⟨n, l2, t1, hn0, hn1, ht0, ht1, fnF_rt (L := [0, 1]) (n := 4) (k := 2) (ms := [stM l c t, .v (.int b)]) (ρ := rD l2 c t1 b (some (.v (.int n))) y1) ?_⟩
  show g__law_digit (rD l c t b none none) = _
  unfold g__law_digit
  exact (sSeq_n e1).trans e2
end K99
end

section
set_option Elab.async false
set_option linter.all false
set_option maxRecDepth 100000
set_option maxHeartbeats 4000000
namespace K99
open PySem PySem.Spec PyProof.Rows L2 FW
def bodyL : SF := (sSeq (sSet 6 (jFn F__law_draw (aCons (jArg (jVar 5)) (aCons (jArg (jVar 4)) aNil))))
  (sSeq (sSet 7 (jFn F__law_digit (aCons (jArg (jVar 6)) (aCons (jC (.int 100000)) aNil))))
  (sSeq (sSet 1 (jCall mLst (aCons (jFrz (jVar 7)) (aCons (jFrz (jBin mSub (jC (.int 0)) (jVar 7))) (aCons (jFrz (jBin mMul (jC (.str "ab")) (jBin mMod (jVar 7) (jC (.int 50))))) (aCons (jFrz (jCall mTup (aCons (jC (.str "atom")) (aCons (jFrz (jCall mTup (aCons (jC (.int 0)) (aCons (jFrz (jVar 7)) aNil)))) aNil)))) (aCons (jC .none) (aCons (jFrz (jCall mTup (aCons (jFrz (jBin mPow (jC (.int 10)) (jC (.int 30)))) (aCons (jFrz (jCall mTup aNil)) aNil)))) (aCons (jFrz (jBin mMul (jCall mTup (aCons (jFrz (jVar 7)) aNil)) (jC (.int 9)))) aNil)))))))))
  (sIf (tOo (tNo (tTru (jFn F__law_right (aCons (jArg (jBin mIxA (jVar 1) (jFn F__law_digit (aCons (jArg (jVar 6)) (aCons (jC (.int 7)) aNil))))) aNil)))) (tNo (tTru (jFn F__law_right (aCons (jArg (jBin mPow (jBin mPow (jBin mPow (jC (.int 10)) (jC (.int 50))) (jC (.int 50))) (jC (.int 2)))) aNil)))))
  (sRt (jC (.bool false)))
  sNx))))
def tailL : SF := (sSeq (sSet 1 (jCall mLst (aCons (jFrz (jM0 "BadNumber" "no such number")) (aCons (jFrz (jM0 "BadPoint" "no such point")) (aCons (jFrz (jM0 "BadLine" "no such line")) (aCons (jFrz (jM0 "BadFace" "no such face")) (aCons (jFrz (jM0 "NoSuch" "nothing so called")) aNil)))))))
  (sSeq (sSet 2 (jCall mLst (aCons (jFrz (jM0 "BadWeb" "no such web")) (aCons (jFrz (jM0 "BadDrawing" "no such drawing")) (aCons (jFrz (jM0 "BadColours" "no such colours")) (aCons (jFrz (jM0 "BadTree" "no such tree")) (aCons (jFrz (jM0 "BadGrid" "no such grid")) (aCons (jFrz (jM0 "BadBody" "no such body")) (aCons (jFrz (jM0 "BadOrder" "no such order")) aNil)))))))))
  (sSeq (sSet 2 (jBin mAdd (jVar 2) (jCall mLst (aCons (jFrz (jM0 "BadPlan" "no such plan")) (aCons (jFrz (jM0 "BadBars" "no such bars")) (aCons (jFrz (jM0 "BadSurface" "no such surface")) (aCons (jFrz (jM0 "BadMap" "no such permutation")) (aCons (jFrz (jM0 "BadText" "no such text")) (aCons (jFrz (jM0 "BadPaper" "no such paper")) (aCons (jFrz (jM0 "BadDeed" "no such deed")) aNil))))))))))
  (sSeq (sIf (tOo (tBo (jBin mNe (jLc (iSeq (jVar 1)) (gN 9) tYe (jUn (mAtt (fldN exN) "value") (jVar 9)) [9]) (jBin mMul (jCall mLst (aCons (jC .none) aNil)) (jC (.int 5))))) (tBo (jBin mNe (jLc (iSeq (jVar 2)) (gN 9) tYe (jUn (mAtt (fldN exN) "place") (jVar 9)) [9]) (jBin mMul (jCall mLst (aCons (jC .none) aNil)) (jC (.int 14))))))
  (sRt (jC (.bool false)))
  sNx)
  (sSeq (sFor (iSeq (jCall mTup (aCons (jC (.str "zqzq")) (aCons (jFrz (jBin mPow (jC (.int 10)) (jC (.int 30)))) (aCons (jC (.int 70707)) aNil))))) (gN 3)
  (sSeq (sSet 8 (jBin mAdd (jLc (iSeq (jBin mAdd (jFn F__law_valued (aCons (jArg (jVar 3)) aNil)) (jFn F__law_placed (aCons (jArg (jVar 3)) aNil)))) (gT [(gN 10), (gN 11), (gN 12)]) tYe (jVar 10) [10, 11, 12]) (jCall mLst (aCons (jFrz (jM "NoSuch" "nothing so called" (aCons (jFrz (jVar 3)) aNil))) (aCons (jFrz (jM "TooMany" "too many" (aCons (jFrz (jVar 3)) aNil))) aNil)))))
  (sIf (tBo (jBin mNe (jLc (iSeq (jVar 8)) (gN 9) (tBo (jBin (mInY false) (jCall mStr (aCons (jVar 3) aNil)) (jCall mStr (aCons (jVar 9) aNil)))) (jVar 9) [9]) (jCall mLst aNil)))
  (sRt (jC (.bool false)))
  sNx)))
  (sRt (jC (.bool true))))))))
def iterL : IF := (iEn (aCons (jFrz (jBin mAdd (jSl (jVar 0) oNo (oPt (jC (.int 4)))) (jCall mLst (aCons (jFrz (jCall mSum (aCons (jVar 0) aNil))) aNil)))) aNil))
theorem g_law_eq : g_law = sSeq (sFor iterL (gT [(gN 4), (gN 5)]) bodyL) tailL := rfl
def someJ : JF := (jCall mLst (aCons (jFrz (jVar 7)) (aCons (jFrz (jBin mSub (jC (.int 0)) (jVar 7))) (aCons (jFrz (jBin mMul (jC (.str "ab")) (jBin mMod (jVar 7) (jC (.int 50))))) (aCons (jFrz (jCall mTup (aCons (jC (.str "atom")) (aCons (jFrz (jCall mTup (aCons (jC (.int 0)) (aCons (jFrz (jVar 7)) aNil)))) aNil)))) (aCons (jC .none) (aCons (jFrz (jCall mTup (aCons (jFrz (jBin mPow (jC (.int 10)) (jC (.int 30)))) (aCons (jFrz (jCall mTup aNil)) aNil)))) (aCons (jFrz (jBin mMul (jCall mTup (aCons (jFrz (jVar 7)) aNil)) (jC (.int 9)))) aNil))))))))

def abT (n : Int) : Str := Txt.mul "ab" (n % 50)
def things (n : Int) : List FW.D := [.int n, .int (0 - n), .str (abT n), .tuple [.str "atom", .tuple [.int 0, .int n]], .none, .tuple [.int (10 ^ 30), .tuple []], .tuple [.int n, .int n, .int n, .int n, .int n, .int n, .int n, .int n, .int n]]
theorem abT_ok (n : Int) : PyData.strOk (abT n) = true := by
  have h0 := Int.emod_nonneg n (show (50 : Int) ≠ 0 by decide)
  have h1 := Int.emod_lt_of_pos n (show (0 : Int) < 50 by decide)
  unfold abT
  generalize n % 50 = k at h0 h1
  have : ∀ k : Nat, k < 50 → PyData.strOk (Txt.mul "ab" (k : Int)) = true := by decide +kernel
  have e := this k.toNat (by omega)
  rw [Int.toNat_of_nonneg h0] at e
  exact e
theorem things_same {n : Int} {d : FW.D} (h : d ∈ things n) : Same d := by
  unfold things at h
  simp only [List.mem_cons, List.not_mem_nil, or_false] at h
  rcases h with h | h | h | h | h | h | h <;> subst h
  · exact same_of rfl
  · exact same_of rfl
  · refine same_of ?_
    unfold SeqAt.shaped
    show (PyData.strOk (abT n) && _) = true
    rw [abT_ok]
    rfl
  · exact same_of (by kernel_rfl)
  · exact same_of rfl
  · exact same_of (by kernel_rfl)
  · exact same_of (by kernel_rfl)
abbrev rL (ns : List Int) (a b c : Option M) (k cell : Int) (st nm x8 x9 x10 x11 x12 : Option M) : FW.Env := [some (.sc ns), a, b, c, some (.v (.int k)), some (.v (.int cell)), st, nm, x8, x9, x10, x11, x12]
theorem str_i {x : Str} {k : Int} (h1 : -1000 ≤ k) (h2 : k ≤ 1000) (h3 : x.length ≤ 10000) : mMul (.v (.str x)) (.v (.int k)) = some (.v (.str (Txt.mul x k))) := by
  show (if decide (-1000 ≤ k) && decide (k ≤ 1000) && decide (x.length ≤ 10000) then some (M.v (.str (Txt.mul x k))) else none) = _
  rw [decide_eq_true h1, decide_eq_true h2, decide_eq_true h3]
  rfl
theorem tv_call {F : List M → Option M} {g : AF} {ρ : FW.Env} {ds : List FW.D} {m : M} (h : Av g ρ ds) (h2 : F (ds.map M.v) = some m) : Tv (jCall F g) ρ m := by
  have hg : ∀ ds : List FW.D, gets ρ (ds.map fun d => Src.tmp (.v d)) = some (ds.map M.v) := by
    intro ds
    induction ds with
    | nil => rfl
    | cons d ds ih =>
      show (match some (M.v d), gets ρ (ds.map fun d => Src.tmp (.v d)) with
        | some m, some ms => some (m :: ms)
        | _, _ => none) = _
      rw [ih]
      rfl
  unfold Tv jCall
  rw [show g ρ = _ from h]
  show appN F (gets ρ (ds.map fun d => Src.tmp (.v d))) ρ = _
  rw [hg]
  show res (F (ds.map M.v)) ρ = _
  rw [h2]
  rfl
theorem tv_argv {i : Nat} {ρ : FW.Env} {d : FW.D} (h : slotOf ρ i = some (.v d)) : Tv (jArg (jVar i)) ρ (.v d) := by
  unfold Tv jArg jVar
  rw [h]
  show (match slotOf ρ i with
    | some m => if m.isData then Res.ok (Src.tmp m) ρ else .ok (.slot i) ρ
    | none => .stuck) = _
  rw [h]
  rfl
theorem some_ok {ns : List Int} {a b c : Option M} {k cell n : Int} {st x8 x9 x10 x11 x12 : Option M} : Tv someJ (rL ns a b c k cell st (some (.v (.int n))) x8 x9 x10 x11 x12) (.ml (things n)) := by
  have hv : Ev (jVar 7) (rL ns a b c k cell st (some (.v (.int n))) x8 x9 x10 x11 x12) (.v (.int n)) := ev_v rfl
  unfold someJ
  refine tv_call (av_cons (tv_frz hv) (av_cons (tv_frz (tv_bin (m := .v (.int (0 - n))) ev_c hv rfl).ev) (av_cons (tv_frz (tv_bin ev_c (tv_bin hv ev_c (mod_i (by decide))).ev (str_i (x := "ab") ?_ ?_ (by decide))).ev) (av_cons (tv_frz (tv_call (m := .v (.tuple [.str "atom", .tuple [.int 0, .int n]])) (av_cons rfl (av_cons (tv_frz (tv_call (m := .v (.tuple [.int 0, .int n])) (av_cons rfl (av_cons (tv_frz hv) av_nil)) rfl).ev) av_nil)) rfl).ev) (av_cons rfl (av_cons (d := .tuple [.int (10 ^ 30), .tuple []]) (by unfold Tv; kernel_rfl) (av_cons (tv_frz (tv_bin (m := .v (.tuple [.int n, .int n, .int n, .int n, .int n, .int n, .int n, .int n, .int n])) (tv_call (m := .v (.tuple [.int n])) (av_cons (tv_frz hv) av_nil) rfl).ev ev_c rfl).ev) av_nil))))))) ?_
  · have := Int.emod_nonneg n (show (50 : Int) ≠ 0 by decide)
    omega
  · have := Int.emod_lt_of_pos n (show (0 : Int) < 50 by decide)
    omega
  · rfl
theorem tv_fnS {F : FF} {f : JF} {i : Nat} {ρ : FW.Env} {e : FW.D} {a m : M} {x y : Option M} (hs : slotOf ρ i = some a) (ha : a.isData = false) (h2 : Tv f ρ (.v e)) (h : F [a, .v e] = .ok m [x, y]) : jFn F (aCons (jArg (jVar i)) (aCons f aNil)) ρ = .ok (.tmp m) (ρ.set i x) := by
  have e1 : jArg (jVar i) ρ = .ok (.slot i) ρ := by
    unfold jArg jVar
    rw [hs]
    show (match slotOf ρ i with
      | some m => if m.isData then Res.ok (Src.tmp m) ρ else .ok (.slot i) ρ
      | none => .stuck) = _
    rw [hs]
    show (if a.isData then _ else _) = _
    rw [ha]
    rfl
  have e2 : aCons (jArg (jVar i)) (aCons f aNil) ρ = .ok [.slot i, .tmp (.v e)] ρ := by
    unfold aCons
    rw [e1]
    show ((f ρ).bind fun s ρ1 => _).bind _ = _
    rw [show f ρ = _ from h2]
    rfl
  have e3 : gets ρ [.slot i, .tmp (.v e)] = some [a, .v e] := by
    show (match slotOf ρ i, some [M.v e] with
      | some m, some ms => some (m :: ms)
      | _, _ => none) = _
    rw [hs]
  unfold jFn
  rw [e2]
  show (match okArgs [.slot i, .tmp (.v e)], gets ρ [.slot i, .tmp (.v e)] with
    | true, some ms => frR [.slot i, .tmp (.v e)] ρ (F ms)
    | _, _ => .stuck) = _
  rw [e3]
  show frR [.slot i, .tmp (.v e)] ρ (F [a, .v e]) = _
  rw [h]
  rfl
theorem s_setM {i : Nat} {f : JF} {ρ ρ1 : FW.Env} {m : M} (h : f ρ = .ok (.tmp m) ρ1) : sSet i f ρ = .nx (ρ1.set i (some m)) := by
  unfold sSet
  rw [h]
theorem tv_fn1 {F : FF} {f : JF} {ρ ρ1 : FW.Env} {d : FW.D} {m : M} {x : Option M} (h1 : f ρ = .ok (.tmp (.v d)) ρ1) (h : F [.v d] = .ok m [x]) : jFn F (aCons f aNil) ρ = .ok (.tmp m) ρ1 := by
  have e2 : aCons f aNil ρ = .ok [.tmp (.v d)] ρ1 := by
    unfold aCons
    rw [h1]
    rfl
  unfold jFn
  rw [e2]
  show frR [.tmp (.v d)] ρ1 (F [.v d]) = _
  rw [h]
  rfl
theorem t_no_true {f : JF} {ρ ρ1 : FW.Env} (h : f ρ = .ok (.tmp (.v (.bool true))) ρ1) : tNo (tTru f) ρ = .ok false ρ1 := by
  unfold tNo tTru
  rw [h]
  rfl
theorem at_things (n j : Int) (h0 : 0 ≤ j) (h1 : j < 7) : ∃ d, d ∈ things n ∧ mIxA (.ml (things n)) (.v (.int j)) = some (.v d) := by
  have : j = 0 ∨ j = 1 ∨ j = 2 ∨ j = 3 ∨ j = 4 ∨ j = 5 ∨ j = 6 := by omega
  rcases this with h | h | h | h | h | h | h <;> subst h
  · exact ⟨.int n, by simp [things], rfl⟩
  · exact ⟨.int (0 - n), by simp [things], rfl⟩
  · exact ⟨.str (abT n), by simp [things], rfl⟩
  · exact ⟨.tuple [.str "atom", .tuple [.int 0, .int n]], by simp [things], rfl⟩
  · exact ⟨.none, by simp [things], rfl⟩
  · exact ⟨.tuple [.int (10 ^ 30), .tuple []], by simp [things], rfl⟩
  · exact ⟨.tuple [.int n, .int n, .int n, .int n, .int n, .int n, .int n, .int n, .int n], by simp [things], rfl⟩
theorem sIf_f1 {u : TF} {x y : SF} {ρ ρ1 : FW.Env} (h : u ρ = .ok false ρ1) : sIf u x y ρ = y ρ1 := by
  unfold sIf
  rw [h]
theorem tOo_f1 {u v : TF} {ρ ρ1 ρ2 : FW.Env} {b : Bool} (h : u ρ = .ok false ρ1) (h2 : v ρ1 = .ok b ρ2) : tOo u v ρ = .ok b ρ2 := by
  unfold tOo
  rw [h]
  exact h2
theorem tv_binE {F : M → M → Option M} {g : JF} {i : Nat} {ρ ρ1 : FW.Env} {a b m : M} (h1 : slotOf ρ i = some a) (h2 : g ρ = .ok (.tmp b) ρ1) (h3 : slotOf ρ1 i = some a) (h : F a b = some m) : jBin F (jVar i) g ρ = .ok (.tmp m) ρ1 := by
  unfold jBin jVar
  rw [h1]
  show ((g ρ).bind fun s' ρ2 => app2 F (Src.get ρ2 (.slot i)) (s'.get ρ2) ρ2) = _
  rw [h2]
  show app2 F (slotOf ρ1 i) (some b) ρ1 = _
  rw [h3]
  show res (F a b) ρ1 = _
  rw [h]
  rfl
theorem argE {f : JF} {ρ ρ1 : FW.Env} {d : FW.D} (h : f ρ = .ok (.tmp (.v d)) ρ1) : jArg f ρ = .ok (.tmp (.v d)) ρ1 := by
  unfold jArg
  rw [h]
  rfl
theorem pow1 : mPow (.v (.int 10)) (.v (.int 50)) = some (.v (.int (10 ^ 50))) := by kernel_rfl
theorem pow2 : mPow (.v (.int (10 ^ 50))) (.v (.int 50)) = some (.v (.int ((10 ^ 50) ^ 50))) := by kernel_rfl
theorem pow3 : mPow (.v (.int ((10 ^ 50) ^ 50))) (.v (.int 2)) = some (.v (.int (((10 ^ 50) ^ 50) ^ 2))) := by kernel_rfl
abbrev rG (ns : List Int) (a b c k cell st nm x8 x9 x10 x11 x12 : Option M) : FW.Env := [some (.sc ns), a, b, c, k, cell, st, nm, x8, x9, x10, x11, x12]
theorem body_law (ns : List Int) (a b c : Option M) (k cell : Int) (st nm x8 x9 x10 x11 x12 : Option M) (h0 : 0 ≤ k) (h1 : k < 5) : ∃ a' st' nm', bodyL (rL ns a b c k cell st nm x8 x9 x10 x11 x12) = .nx (rL ns a' b c k cell st' nm' x8 x9 x10 x11 x12) := by
  obtain ⟨l, hl⟩ := draw_ok cell k
  obtain ⟨n, l1, t1, hn0, hn1, ht0, ht1, e1⟩ := digit_ok l cell (1000 * k) 100000 (by omega) (by omega) (by decide) (by decide)
  obtain ⟨j, l2, t2, hj0, hj1, _, _, e2⟩ := digit_ok l1 cell t1 7 ht0 (by omega) (by decide) (by decide)
  obtain ⟨d, hd, hix⟩ := at_things n j hj0 hj1
  refine ⟨some (.ml (things n)), some (stM l2 cell t2), some (.v (.int n)), ?_⟩
  unfold bodyL
  refine (sSeq_n (ρ1 := rL ns a b c k cell (some (stM l cell (1000 * k))) nm x8 x9 x10 x11 x12) (s_setM (tv_fn2 (tv_argv rfl) (tv_argv rfl) hl))).trans ?_
  refine (sSeq_n (ρ1 := rL ns a b c k cell (some (stM l1 cell t1)) (some (.v (.int n))) x8 x9 x10 x11 x12) (s_setM (tv_fnS (i := 6) (a := stM l cell (1000 * k)) rfl rfl rfl e1))).trans ?_
  refine (sSeq_n (ρ1 := rL ns (some (.ml (things n))) b c k cell (some (stM l1 cell t1)) (some (.v (.int n))) x8 x9 x10 x11 x12) (s_set some_ok)).trans ?_
  refine (sIf_f1 (ρ1 := rL ns (some (.ml (things n))) b c k cell (some (stM l2 cell t2)) (some (.v (.int n))) x8 x9 x10 x11 x12) (tOo_f1 (t_no_true (tv_fn1 (argE (tv_binE (i := 1) rfl (tv_fnS (i := 6) (a := stM l1 cell t1) rfl rfl rfl e2) rfl hix)) (right_ok d (things_same hd)))) (t_no_true (tv_fn1 (d := .int (((10 ^ 50) ^ 50) ^ 2)) (argE ?_) (right_ok _ (same_int _)))))).trans rfl
  exact tv_bin (tv_bin (tv_bin ev_c ev_c pow1).ev ev_c pow2).ev ev_c pow3
theorem loop_law (ns : List Int) (b c x8 x9 x10 x11 x12 : Option M) : ∀ (cs : List Int) (i : Nat) (a k cell st nm : Option M), i + cs.length ≤ 5 → ∃ a' k' c' st' nm', forL (gT [(gN 4), (gN 5)]) bodyL (enumD i (cs.map .int)) (rG ns a b c k cell st nm x8 x9 x10 x11 x12) = .nx (rG ns a' b c k' c' st' nm' x8 x9 x10 x11 x12)
  | [], i, a, k, cell, st, nm, h => ⟨a, k, cell, st, nm, rfl⟩
  | z :: cs, i, a, k, cell, st, nm, h => by
    have h : i + (cs.length + 1) ≤ 5 := h
    obtain ⟨a1, s1, n1, e1⟩ := body_law ns a b c (i : Int) z st nm x8 x9 x10 x11 x12 (by omega) (by omega)
    obtain ⟨a2, k2, c2, s2, n2, e2⟩ := loop_law ns b c x8 x9 x10 x11 x12 cs (i + 1) a1 (some (.v (.int (i : Int)))) (some (.v (.int z))) s1 n1 (by omega)
    exact ⟨a2, k2, c2, s2, n2, (forL_c (ρ1 := rL ns a b c (i : Int) z st nm x8 x9 x10 x11 x12) rfl e1).trans e2⟩
def rtM : Fl → Option M
  | .rt m _ => some m
  | _ => none
theorem rtM_rt {f : Fl} {m : M} (h : rtM f = some m) : ∃ ρ, f = .rt m ρ := by
  cases f <;> cases h
  exact ⟨_, rfl⟩
theorem tail_law (ns : List Int) (a k cell st nm : Option M) : ∃ ρ, tailL (rG ns a none none k cell st nm none none none none none) = .rt (.v (.bool true)) ρ := by
  refine rtM_rt ?_
  kernel_rfl
theorem tv_frzM {f : JF} {ρ : FW.Env} {d : FW.D} {m : M} (h : Tv f ρ m) (h2 : m.asD = some d) : Tv (jFrz f) ρ (.v d) := by
  unfold Tv jFrz
  rw [show f ρ = _ from h]
  show (match m.asD with
    | some d => Res.ok (Src.tmp (.v d)) ρ
    | none => .stuck) = _
  rw [h2]
theorem en_ok {g : AF} {ρ : FW.Env} {ds : List FW.D} (h : Av g ρ [.list ds]) : iEn g ρ = .ok (enumD 0 ds) ρ := by
  unfold iEn
  rw [show g ρ = _ from h]
  rfl
theorem iter_law (ns : List Int) (a b c k cell st nm x8 x9 x10 x11 x12 : Option M) : ∃ cs : List Int, cs.length ≤ 5 ∧ iterL (rG ns a b c k cell st nm x8 x9 x10 x11 x12) = .ok (enumD 0 (cs.map PyData.int)) (rG ns a b c k cell st nm x8 x9 x10 x11 x12) := by
  have hl : (FW.cutD ns none (some 4)).length ≤ 4 := by
    unfold FW.cutD
    rw [List.length_take]
    have e : HT.sIx ns.length ns.length (some 4) = min 4 ns.length := HT.sIx_nat _ _ 4
    rw [e]
    omega
  refine ⟨FW.cutD ns none (some 4) ++ [ns.sum], by simp; omega, ?_⟩
  have e0 : Tv (jSl (jVar 0) oNo (oPt (jC (.int 4)))) (rG ns a b c k cell st nm x8 x9 x10 x11 x12) (.ml ((FW.cutD ns none (some 4)).map PyData.int)) := rfl
  have e1 : Tv (jCall mLst (aCons (jFrz (jCall mSum (aCons (jVar 0) aNil))) aNil)) (rG ns a b c k cell st nm x8 x9 x10 x11 x12) (.ml [.int ns.sum]) := rfl
  have hs : FW.sizeOk (((FW.cutD ns none (some 4)).map PyData.int).length + 1) = true := by
    rw [List.length_map]
    generalize (FW.cutD ns none (some 4)).length = q at hl
    have : ∀ q : Nat, q ≤ 4 → FW.sizeOk (q + 1) = true := by decide +kernel
    exact this q hl
  have e2 : mAdd (.ml ((FW.cutD ns none (some 4)).map PyData.int)) (.ml [.int ns.sum]) = some (.ml ((FW.cutD ns none (some 4) ++ [ns.sum]).map PyData.int)) := by
    show (if FW.sizeOk (((FW.cutD ns none (some 4)).map PyData.int).length + 1) then some (M.ml ((FW.cutD ns none (some 4)).map PyData.int ++ [.int ns.sum])) else none) = _
    rw [hs, List.map_append]
    rfl
  have e3 : Tv (jBin mAdd (jSl (jVar 0) oNo (oPt (jC (.int 4)))) (jCall mLst (aCons (jFrz (jCall mSum (aCons (jVar 0) aNil))) aNil))) (rG ns a b c k cell st nm x8 x9 x10 x11 x12) (.ml ((FW.cutD ns none (some 4) ++ [ns.sum]).map PyData.int)) := tv_bin e0.ev e1.ev e2
  have e4 : Tv (jFrz (jBin mAdd (jSl (jVar 0) oNo (oPt (jC (.int 4)))) (jCall mLst (aCons (jFrz (jCall mSum (aCons (jVar 0) aNil))) aNil)))) (rG ns a b c k cell st nm x8 x9 x10 x11 x12) (.v (.list ((FW.cutD ns none (some 4) ++ [ns.sum]).map PyData.int))) := by
    exact tv_frzM e3 rfl
  exact en_ok (av_cons e4 av_nil)
theorem law_ok (ns : List Int) : ∃ ms, F_law [.sc ns] = .ok (.v (.bool true)) ms := by
  obtain ⟨cs, hc, e1⟩ := iter_law ns none none none none none none none none none none none none
  obtain ⟨a, k, c, s, n, e2⟩ := loop_law ns none none none none none none none cs 0 none none none none none (by omega)
  obtain ⟨ρ, e3⟩ := tail_law ns a k c s n
  refine ⟨_, fnF_rt (L := [0]) (n := 13) (k := 1) (ms := [.sc ns]) (ρ := ρ) ?_⟩
  rw [g_law_eq]
  exact (sSeq_n (sFor_ok e1 e2)).trans e3
end K99
end

section
set_option Elab.async false
set_option linter.all false
set_option maxRecDepth 100000
set_option maxHeartbeats 4000000
namespace K99
open PySem PySem.Spec PyProof.Rows L2 FW
def adr (K : PySem.W.Frag) (x : Str) : Addr := match PySem.W.nsIn K mainGlobals x with
  | some (some (.ref a)) => a
  | _ => 0
def fdr (K : PySem.W.Frag) (x : Str) : FuncData := match K.lookup (adr K x) with
  | some ⟨_, _, .func fd, _⟩ => fd
  | _ => default
theorem adr_is {K : PySem.W.Frag} {x : Str} {a : Addr} (h : PySem.W.nsIn K mainGlobals x = some (some (.ref a))) : adr K x = a := by
  unfold adr
  rw [h]
structure PX (K : PySem.W.Frag) (mg : Str → Option Value) (x f msg : Str) (k : Nat) (dflt : Bool) : Prop where
  e : ECok K (adr K "FlatError") ⟨x, adr K x, f, k⟩
  st : PySem.W.findIn K (.ref (adr K x)) "__str__" = some (some (.builtin "BaseException.__str__"))
  g : mg x = some (.ref (adr K x))
  m : ∀ (P : Program) (w : World) (base : Heap), XM P w K mg base x f f msg dflt (adr K x)

abbrev i_BadNumber : Stmt := initS (topS 2)
theorem p_BadNumber {K : PySem.W.Frag} {h : Heap} {mg : Str → Option Value} {F C fI N : Addr} {T : Addr} (X : K.In h) (G : h.Ns mainGlobals mg) (gF : PySem.W.nsIn K mainGlobals "FlatError" = some (some (.ref F))) (b1 : PySem.W.specialIn K (.ref F) "__getattribute__" = some (some (.builtin "type.__getattribute__"))) (b2 : PySem.W.readsIn K F (.type "type") = true) (b3 : PySem.W.findCls K (.ref F) (.type "type") "__init__" = some (.val (.builtin "ValueError.__init__")))
    {nm q : Str} {bs : List Value} {sn : List Str} {sub : List Value} {ab : Bool} {col : Option Bool} {dd : Option Addr} {m0 m1 m2 m3 m5 : Option Value} {od1 an1 : Option Addr} {sl1 : Array (Option Value)} {oc1 kV1 dc1 pm1 cd1 ct1 : Value}
    (gC : PySem.W.nsIn K mainGlobals "BadNumber" = some (some (.ref C))) (xL : K.lookup C = some (excClassObj nm q C N bs (.ref F :: bmT 0) true sn sub ab col dd m0 m1 m2 m3 m5 "ValueError.__new__"))
    (sa : PySem.W.findIn K (.ref C) "__setattr__" = some (some (.builtin "object.__setattr__"))) (ga : PySem.W.findIn K (.ref C) "__getattribute__" = some (some (.builtin "BaseException.__getattribute__"))) (gg : PySem.W.findIn K (.ref C) "__getattr__" = some none) (no : PySem.W.findIn K (.ref C) "value" = some none)
    (ca : PySem.W.findIn K (.ref C) "__class__" = some (some (.builtin "object.__class__"))) (kC : PySem.W.keepIn K (.ref C) = true) (hn : PySem.W.specialIn K (.builtin "object.__class__") "__get__" = some (some (.builtin "getset_descriptor.__get__"))) (ht : PySem.W.takesIn K (.builtin "object.__class__") = some true)
    (st : PySem.W.findIn K (.ref C) "__str__" = some (some (.builtin "BaseException.__str__"))) (iC : PySem.W.findIn K (.ref C) "__init__" = some (some (.ref fI))) (tI : PySem.W.typeIn K (.ref fI) = some (.type "function")) (kI : PySem.W.keepIn K (.ref fI) = true)
    (lI : K.lookup fI = some ⟨oc1, od1, .func (PySem.W.fnOf "__init__" "BadNumber.__init__" (defArgs i_BadNumber) (defBody i_BadNumber) (defScope i_BadNumber) (.ref T) kV1 dc1 pm1 an1 cd1 ct1), sl1⟩) (cI : PySem.W.codeIn K cd1 "BadNumber.__init__" = true) {tc : Value} {td : Option Addr} {tn : Nat} {ts : Array (Option Value)} (lT : K.lookup T = some ⟨tc, td, .seq #[.none] tn, ts⟩) : PX K mg "BadNumber" "value" "no such number" 0 true := by
  have eF := adr_is gF
  have eC := adr_is gC
  have hE : ECok K F ⟨"BadNumber", C, "value", 0⟩ := ⟨⟨nm, q, N, bs, sn, sub, ab, col, dd, m0, m1, m2, m3, m5, xL⟩, sa, ga, gg, no, ca, kC, hn, ht⟩
  have hF : FunD K "__init__" "BadNumber.__init__" (defArgs i_BadNumber) (defBody i_BadNumber) (defScope i_BadNumber) [.non] [] fI _ := ⟨⟨oc1, od1, _, kV1, dc1, pm1, an1, cd1, ct1, sl1, rfl, lI, cI, .inr ⟨by simp, T, _, [.none], tn, rfl, lT, rfl, .cons rfl .nil⟩, .inl rfl⟩, kI⟩
  have g := PySem.W.mg_of X G gC
  constructor
  · rw [eF, eC]; exact hE
  · rw [eC]; exact st
  · rw [eC]; exact g
  · intro P w base
    rw [eC]
    exact xm_d hE hF iC tI ⟨rfl, rfl, rfl, by decide +kernel, rfl, by decide +kernel, by decide +kernel⟩ ⟨_, _, _, _, _, _, _, _, _, _, _, rfl, fun env h => ⟨_, by rfl⟩⟩ (.inl ⟨rfl, PySem.W.mg_of X G gF, b1, b2, b3⟩) rfl (by decide) (.inl rfl) (.inl rfl) (by decide) (by decide) (fun _ _ _ _ _ _ _ _ _ _ => ⟨_, rfl, rfl⟩) (fun _ _ _ _ _ _ _ _ _ _ => ⟨_, rfl, rfl⟩) (fun _ _ _ _ _ _ _ _ _ => ⟨_, rfl, rfl⟩) g

abbrev i_BadPoint : Stmt := initS (topS 3)
theorem p_BadPoint {K : PySem.W.Frag} {h : Heap} {mg : Str → Option Value} {F C fI N : Addr} {T : Addr} (X : K.In h) (G : h.Ns mainGlobals mg) (gF : PySem.W.nsIn K mainGlobals "FlatError" = some (some (.ref F))) (b1 : PySem.W.specialIn K (.ref F) "__getattribute__" = some (some (.builtin "type.__getattribute__"))) (b2 : PySem.W.readsIn K F (.type "type") = true) (b3 : PySem.W.findCls K (.ref F) (.type "type") "__init__" = some (.val (.builtin "ValueError.__init__")))
    {nm q : Str} {bs : List Value} {sn : List Str} {sub : List Value} {ab : Bool} {col : Option Bool} {dd : Option Addr} {m0 m1 m2 m3 m5 : Option Value} {od1 an1 : Option Addr} {sl1 : Array (Option Value)} {oc1 kV1 dc1 pm1 cd1 ct1 : Value}
    (gC : PySem.W.nsIn K mainGlobals "BadPoint" = some (some (.ref C))) (xL : K.lookup C = some (excClassObj nm q C N bs (.ref F :: bmT 0) true sn sub ab col dd m0 m1 m2 m3 m5 "ValueError.__new__"))
    (sa : PySem.W.findIn K (.ref C) "__setattr__" = some (some (.builtin "object.__setattr__"))) (ga : PySem.W.findIn K (.ref C) "__getattribute__" = some (some (.builtin "BaseException.__getattribute__"))) (gg : PySem.W.findIn K (.ref C) "__getattr__" = some none) (no : PySem.W.findIn K (.ref C) "value" = some none)
    (ca : PySem.W.findIn K (.ref C) "__class__" = some (some (.builtin "object.__class__"))) (kC : PySem.W.keepIn K (.ref C) = true) (hn : PySem.W.specialIn K (.builtin "object.__class__") "__get__" = some (some (.builtin "getset_descriptor.__get__"))) (ht : PySem.W.takesIn K (.builtin "object.__class__") = some true)
    (st : PySem.W.findIn K (.ref C) "__str__" = some (some (.builtin "BaseException.__str__"))) (iC : PySem.W.findIn K (.ref C) "__init__" = some (some (.ref fI))) (tI : PySem.W.typeIn K (.ref fI) = some (.type "function")) (kI : PySem.W.keepIn K (.ref fI) = true)
    (lI : K.lookup fI = some ⟨oc1, od1, .func (PySem.W.fnOf "__init__" "BadPoint.__init__" (defArgs i_BadPoint) (defBody i_BadPoint) (defScope i_BadPoint) (.ref T) kV1 dc1 pm1 an1 cd1 ct1), sl1⟩) (cI : PySem.W.codeIn K cd1 "BadPoint.__init__" = true) {tc : Value} {td : Option Addr} {tn : Nat} {ts : Array (Option Value)} (lT : K.lookup T = some ⟨tc, td, .seq #[.none] tn, ts⟩) : PX K mg "BadPoint" "value" "no such point" 0 true := by
  have eF := adr_is gF
  have eC := adr_is gC
  have hE : ECok K F ⟨"BadPoint", C, "value", 0⟩ := ⟨⟨nm, q, N, bs, sn, sub, ab, col, dd, m0, m1, m2, m3, m5, xL⟩, sa, ga, gg, no, ca, kC, hn, ht⟩
  have hF : FunD K "__init__" "BadPoint.__init__" (defArgs i_BadPoint) (defBody i_BadPoint) (defScope i_BadPoint) [.non] [] fI _ := ⟨⟨oc1, od1, _, kV1, dc1, pm1, an1, cd1, ct1, sl1, rfl, lI, cI, .inr ⟨by simp, T, _, [.none], tn, rfl, lT, rfl, .cons rfl .nil⟩, .inl rfl⟩, kI⟩
  have g := PySem.W.mg_of X G gC
  constructor
  · rw [eF, eC]; exact hE
  · rw [eC]; exact st
  · rw [eC]; exact g
  · intro P w base
    rw [eC]
    exact xm_d hE hF iC tI ⟨rfl, rfl, rfl, by decide +kernel, rfl, by decide +kernel, by decide +kernel⟩ ⟨_, _, _, _, _, _, _, _, _, _, _, rfl, fun env h => ⟨_, by rfl⟩⟩ (.inl ⟨rfl, PySem.W.mg_of X G gF, b1, b2, b3⟩) rfl (by decide) (.inl rfl) (.inl rfl) (by decide) (by decide) (fun _ _ _ _ _ _ _ _ _ _ => ⟨_, rfl, rfl⟩) (fun _ _ _ _ _ _ _ _ _ _ => ⟨_, rfl, rfl⟩) (fun _ _ _ _ _ _ _ _ _ => ⟨_, rfl, rfl⟩) g

abbrev i_BadLine : Stmt := initS (topS 4)
theorem p_BadLine {K : PySem.W.Frag} {h : Heap} {mg : Str → Option Value} {F C fI N : Addr} {T : Addr} (X : K.In h) (G : h.Ns mainGlobals mg) (gF : PySem.W.nsIn K mainGlobals "FlatError" = some (some (.ref F))) (b1 : PySem.W.specialIn K (.ref F) "__getattribute__" = some (some (.builtin "type.__getattribute__"))) (b2 : PySem.W.readsIn K F (.type "type") = true) (b3 : PySem.W.findCls K (.ref F) (.type "type") "__init__" = some (.val (.builtin "ValueError.__init__")))
    {nm q : Str} {bs : List Value} {sn : List Str} {sub : List Value} {ab : Bool} {col : Option Bool} {dd : Option Addr} {m0 m1 m2 m3 m5 : Option Value} {od1 an1 : Option Addr} {sl1 : Array (Option Value)} {oc1 kV1 dc1 pm1 cd1 ct1 : Value}
    (gC : PySem.W.nsIn K mainGlobals "BadLine" = some (some (.ref C))) (xL : K.lookup C = some (excClassObj nm q C N bs (.ref F :: bmT 0) true sn sub ab col dd m0 m1 m2 m3 m5 "ValueError.__new__"))
    (sa : PySem.W.findIn K (.ref C) "__setattr__" = some (some (.builtin "object.__setattr__"))) (ga : PySem.W.findIn K (.ref C) "__getattribute__" = some (some (.builtin "BaseException.__getattribute__"))) (gg : PySem.W.findIn K (.ref C) "__getattr__" = some none) (no : PySem.W.findIn K (.ref C) "value" = some none)
    (ca : PySem.W.findIn K (.ref C) "__class__" = some (some (.builtin "object.__class__"))) (kC : PySem.W.keepIn K (.ref C) = true) (hn : PySem.W.specialIn K (.builtin "object.__class__") "__get__" = some (some (.builtin "getset_descriptor.__get__"))) (ht : PySem.W.takesIn K (.builtin "object.__class__") = some true)
    (st : PySem.W.findIn K (.ref C) "__str__" = some (some (.builtin "BaseException.__str__"))) (iC : PySem.W.findIn K (.ref C) "__init__" = some (some (.ref fI))) (tI : PySem.W.typeIn K (.ref fI) = some (.type "function")) (kI : PySem.W.keepIn K (.ref fI) = true)
    (lI : K.lookup fI = some ⟨oc1, od1, .func (PySem.W.fnOf "__init__" "BadLine.__init__" (defArgs i_BadLine) (defBody i_BadLine) (defScope i_BadLine) (.ref T) kV1 dc1 pm1 an1 cd1 ct1), sl1⟩) (cI : PySem.W.codeIn K cd1 "BadLine.__init__" = true) {tc : Value} {td : Option Addr} {tn : Nat} {ts : Array (Option Value)} (lT : K.lookup T = some ⟨tc, td, .seq #[.none] tn, ts⟩) : PX K mg "BadLine" "value" "no such line" 0 true := by
  have eF := adr_is gF
  have eC := adr_is gC
  have hE : ECok K F ⟨"BadLine", C, "value", 0⟩ := ⟨⟨nm, q, N, bs, sn, sub, ab, col, dd, m0, m1, m2, m3, m5, xL⟩, sa, ga, gg, no, ca, kC, hn, ht⟩
  have hF : FunD K "__init__" "BadLine.__init__" (defArgs i_BadLine) (defBody i_BadLine) (defScope i_BadLine) [.non] [] fI _ := ⟨⟨oc1, od1, _, kV1, dc1, pm1, an1, cd1, ct1, sl1, rfl, lI, cI, .inr ⟨by simp, T, _, [.none], tn, rfl, lT, rfl, .cons rfl .nil⟩, .inl rfl⟩, kI⟩
  have g := PySem.W.mg_of X G gC
  constructor
  · rw [eF, eC]; exact hE
  · rw [eC]; exact st
  · rw [eC]; exact g
  · intro P w base
    rw [eC]
    exact xm_d hE hF iC tI ⟨rfl, rfl, rfl, by decide +kernel, rfl, by decide +kernel, by decide +kernel⟩ ⟨_, _, _, _, _, _, _, _, _, _, _, rfl, fun env h => ⟨_, by rfl⟩⟩ (.inl ⟨rfl, PySem.W.mg_of X G gF, b1, b2, b3⟩) rfl (by decide) (.inl rfl) (.inl rfl) (by decide) (by decide) (fun _ _ _ _ _ _ _ _ _ _ => ⟨_, rfl, rfl⟩) (fun _ _ _ _ _ _ _ _ _ _ => ⟨_, rfl, rfl⟩) (fun _ _ _ _ _ _ _ _ _ => ⟨_, rfl, rfl⟩) g

abbrev i_BadFace : Stmt := initS (topS 5)
theorem p_BadFace {K : PySem.W.Frag} {h : Heap} {mg : Str → Option Value} {F C fI N : Addr} {T : Addr} (X : K.In h) (G : h.Ns mainGlobals mg) (gF : PySem.W.nsIn K mainGlobals "FlatError" = some (some (.ref F))) (b1 : PySem.W.specialIn K (.ref F) "__getattribute__" = some (some (.builtin "type.__getattribute__"))) (b2 : PySem.W.readsIn K F (.type "type") = true) (b3 : PySem.W.findCls K (.ref F) (.type "type") "__init__" = some (.val (.builtin "ValueError.__init__")))
    {nm q : Str} {bs : List Value} {sn : List Str} {sub : List Value} {ab : Bool} {col : Option Bool} {dd : Option Addr} {m0 m1 m2 m3 m5 : Option Value} {od1 an1 : Option Addr} {sl1 : Array (Option Value)} {oc1 kV1 dc1 pm1 cd1 ct1 : Value}
    (gC : PySem.W.nsIn K mainGlobals "BadFace" = some (some (.ref C))) (xL : K.lookup C = some (excClassObj nm q C N bs (.ref F :: bmT 0) true sn sub ab col dd m0 m1 m2 m3 m5 "ValueError.__new__"))
    (sa : PySem.W.findIn K (.ref C) "__setattr__" = some (some (.builtin "object.__setattr__"))) (ga : PySem.W.findIn K (.ref C) "__getattribute__" = some (some (.builtin "BaseException.__getattribute__"))) (gg : PySem.W.findIn K (.ref C) "__getattr__" = some none) (no : PySem.W.findIn K (.ref C) "value" = some none)
    (ca : PySem.W.findIn K (.ref C) "__class__" = some (some (.builtin "object.__class__"))) (kC : PySem.W.keepIn K (.ref C) = true) (hn : PySem.W.specialIn K (.builtin "object.__class__") "__get__" = some (some (.builtin "getset_descriptor.__get__"))) (ht : PySem.W.takesIn K (.builtin "object.__class__") = some true)
    (st : PySem.W.findIn K (.ref C) "__str__" = some (some (.builtin "BaseException.__str__"))) (iC : PySem.W.findIn K (.ref C) "__init__" = some (some (.ref fI))) (tI : PySem.W.typeIn K (.ref fI) = some (.type "function")) (kI : PySem.W.keepIn K (.ref fI) = true)
    (lI : K.lookup fI = some ⟨oc1, od1, .func (PySem.W.fnOf "__init__" "BadFace.__init__" (defArgs i_BadFace) (defBody i_BadFace) (defScope i_BadFace) (.ref T) kV1 dc1 pm1 an1 cd1 ct1), sl1⟩) (cI : PySem.W.codeIn K cd1 "BadFace.__init__" = true) {tc : Value} {td : Option Addr} {tn : Nat} {ts : Array (Option Value)} (lT : K.lookup T = some ⟨tc, td, .seq #[.none] tn, ts⟩) : PX K mg "BadFace" "value" "no such face" 0 true := by
  have eF := adr_is gF
  have eC := adr_is gC
  have hE : ECok K F ⟨"BadFace", C, "value", 0⟩ := ⟨⟨nm, q, N, bs, sn, sub, ab, col, dd, m0, m1, m2, m3, m5, xL⟩, sa, ga, gg, no, ca, kC, hn, ht⟩
  have hF : FunD K "__init__" "BadFace.__init__" (defArgs i_BadFace) (defBody i_BadFace) (defScope i_BadFace) [.non] [] fI _ := ⟨⟨oc1, od1, _, kV1, dc1, pm1, an1, cd1, ct1, sl1, rfl, lI, cI, .inr ⟨by simp, T, _, [.none], tn, rfl, lT, rfl, .cons rfl .nil⟩, .inl rfl⟩, kI⟩
  have g := PySem.W.mg_of X G gC
  constructor
  · rw [eF, eC]; exact hE
  · rw [eC]; exact st
  · rw [eC]; exact g
  · intro P w base
    rw [eC]
    exact xm_d hE hF iC tI ⟨rfl, rfl, rfl, by decide +kernel, rfl, by decide +kernel, by decide +kernel⟩ ⟨_, _, _, _, _, _, _, _, _, _, _, rfl, fun env h => ⟨_, by rfl⟩⟩ (.inl ⟨rfl, PySem.W.mg_of X G gF, b1, b2, b3⟩) rfl (by decide) (.inl rfl) (.inl rfl) (by decide) (by decide) (fun _ _ _ _ _ _ _ _ _ _ => ⟨_, rfl, rfl⟩) (fun _ _ _ _ _ _ _ _ _ _ => ⟨_, rfl, rfl⟩) (fun _ _ _ _ _ _ _ _ _ => ⟨_, rfl, rfl⟩) g

abbrev i_BadWeb : Stmt := initS (topS 6)
theorem p_BadWeb {K : PySem.W.Frag} {h : Heap} {mg : Str → Option Value} {F C fI N : Addr} {T : Addr} (X : K.In h) (G : h.Ns mainGlobals mg) (gF : PySem.W.nsIn K mainGlobals "FlatError" = some (some (.ref F))) (b1 : PySem.W.specialIn K (.ref F) "__getattribute__" = some (some (.builtin "type.__getattribute__"))) (b2 : PySem.W.readsIn K F (.type "type") = true) (b3 : PySem.W.findCls K (.ref F) (.type "type") "__init__" = some (.val (.builtin "ValueError.__init__")))
    {nm q : Str} {bs : List Value} {sn : List Str} {sub : List Value} {ab : Bool} {col : Option Bool} {dd : Option Addr} {m0 m1 m2 m3 m5 : Option Value} {od1 an1 : Option Addr} {sl1 : Array (Option Value)} {oc1 kV1 dc1 pm1 cd1 ct1 : Value}
    (gC : PySem.W.nsIn K mainGlobals "BadWeb" = some (some (.ref C))) (xL : K.lookup C = some (excClassObj nm q C N bs (.ref F :: bmT 0) true sn sub ab col dd m0 m1 m2 m3 m5 "ValueError.__new__"))
    (sa : PySem.W.findIn K (.ref C) "__setattr__" = some (some (.builtin "object.__setattr__"))) (ga : PySem.W.findIn K (.ref C) "__getattribute__" = some (some (.builtin "BaseException.__getattribute__"))) (gg : PySem.W.findIn K (.ref C) "__getattr__" = some none) (no : PySem.W.findIn K (.ref C) "place" = some none)
    (ca : PySem.W.findIn K (.ref C) "__class__" = some (some (.builtin "object.__class__"))) (kC : PySem.W.keepIn K (.ref C) = true) (hn : PySem.W.specialIn K (.builtin "object.__class__") "__get__" = some (some (.builtin "getset_descriptor.__get__"))) (ht : PySem.W.takesIn K (.builtin "object.__class__") = some true)
    (st : PySem.W.findIn K (.ref C) "__str__" = some (some (.builtin "BaseException.__str__"))) (iC : PySem.W.findIn K (.ref C) "__init__" = some (some (.ref fI))) (tI : PySem.W.typeIn K (.ref fI) = some (.type "function")) (kI : PySem.W.keepIn K (.ref fI) = true)
    (lI : K.lookup fI = some ⟨oc1, od1, .func (PySem.W.fnOf "__init__" "BadWeb.__init__" (defArgs i_BadWeb) (defBody i_BadWeb) (defScope i_BadWeb) (.ref T) kV1 dc1 pm1 an1 cd1 ct1), sl1⟩) (cI : PySem.W.codeIn K cd1 "BadWeb.__init__" = true) {tc : Value} {td : Option Addr} {tn : Nat} {ts : Array (Option Value)} (lT : K.lookup T = some ⟨tc, td, .seq #[.none] tn, ts⟩) : PX K mg "BadWeb" "place" "no such web" 0 true := by
  have eF := adr_is gF
  have eC := adr_is gC
  have hE : ECok K F ⟨"BadWeb", C, "place", 0⟩ := ⟨⟨nm, q, N, bs, sn, sub, ab, col, dd, m0, m1, m2, m3, m5, xL⟩, sa, ga, gg, no, ca, kC, hn, ht⟩
  have hF : FunD K "__init__" "BadWeb.__init__" (defArgs i_BadWeb) (defBody i_BadWeb) (defScope i_BadWeb) [.non] [] fI _ := ⟨⟨oc1, od1, _, kV1, dc1, pm1, an1, cd1, ct1, sl1, rfl, lI, cI, .inr ⟨by simp, T, _, [.none], tn, rfl, lT, rfl, .cons rfl .nil⟩, .inl rfl⟩, kI⟩
  have g := PySem.W.mg_of X G gC
  constructor
  · rw [eF, eC]; exact hE
  · rw [eC]; exact st
  · rw [eC]; exact g
  · intro P w base
    rw [eC]
    exact xm_d hE hF iC tI ⟨rfl, rfl, rfl, by decide +kernel, rfl, by decide +kernel, by decide +kernel⟩ ⟨_, _, _, _, _, _, _, _, _, _, _, rfl, fun env h => ⟨_, by rfl⟩⟩ (.inl ⟨rfl, PySem.W.mg_of X G gF, b1, b2, b3⟩) rfl (by decide) (.inl rfl) (.inl rfl) (by decide) (by decide) (fun _ _ _ _ _ _ _ _ _ _ => ⟨_, rfl, rfl⟩) (fun _ _ _ _ _ _ _ _ _ _ => ⟨_, rfl, rfl⟩) (fun _ _ _ _ _ _ _ _ _ => ⟨_, rfl, rfl⟩) g

abbrev i_BadDrawing : Stmt := initS (topS 7)
theorem p_BadDrawing {K : PySem.W.Frag} {h : Heap} {mg : Str → Option Value} {F C fI N : Addr} {T : Addr} (X : K.In h) (G : h.Ns mainGlobals mg) (gF : PySem.W.nsIn K mainGlobals "FlatError" = some (some (.ref F))) (b1 : PySem.W.specialIn K (.ref F) "__getattribute__" = some (some (.builtin "type.__getattribute__"))) (b2 : PySem.W.readsIn K F (.type "type") = true) (b3 : PySem.W.findCls K (.ref F) (.type "type") "__init__" = some (.val (.builtin "ValueError.__init__")))
    {nm q : Str} {bs : List Value} {sn : List Str} {sub : List Value} {ab : Bool} {col : Option Bool} {dd : Option Addr} {m0 m1 m2 m3 m5 : Option Value} {od1 an1 : Option Addr} {sl1 : Array (Option Value)} {oc1 kV1 dc1 pm1 cd1 ct1 : Value}
    (gC : PySem.W.nsIn K mainGlobals "BadDrawing" = some (some (.ref C))) (xL : K.lookup C = some (excClassObj nm q C N bs (.ref F :: bmT 0) true sn sub ab col dd m0 m1 m2 m3 m5 "ValueError.__new__"))
    (sa : PySem.W.findIn K (.ref C) "__setattr__" = some (some (.builtin "object.__setattr__"))) (ga : PySem.W.findIn K (.ref C) "__getattribute__" = some (some (.builtin "BaseException.__getattribute__"))) (gg : PySem.W.findIn K (.ref C) "__getattr__" = some none) (no : PySem.W.findIn K (.ref C) "place" = some none)
    (ca : PySem.W.findIn K (.ref C) "__class__" = some (some (.builtin "object.__class__"))) (kC : PySem.W.keepIn K (.ref C) = true) (hn : PySem.W.specialIn K (.builtin "object.__class__") "__get__" = some (some (.builtin "getset_descriptor.__get__"))) (ht : PySem.W.takesIn K (.builtin "object.__class__") = some true)
    (st : PySem.W.findIn K (.ref C) "__str__" = some (some (.builtin "BaseException.__str__"))) (iC : PySem.W.findIn K (.ref C) "__init__" = some (some (.ref fI))) (tI : PySem.W.typeIn K (.ref fI) = some (.type "function")) (kI : PySem.W.keepIn K (.ref fI) = true)
    (lI : K.lookup fI = some ⟨oc1, od1, .func (PySem.W.fnOf "__init__" "BadDrawing.__init__" (defArgs i_BadDrawing) (defBody i_BadDrawing) (defScope i_BadDrawing) (.ref T) kV1 dc1 pm1 an1 cd1 ct1), sl1⟩) (cI : PySem.W.codeIn K cd1 "BadDrawing.__init__" = true) {tc : Value} {td : Option Addr} {tn : Nat} {ts : Array (Option Value)} (lT : K.lookup T = some ⟨tc, td, .seq #[.none] tn, ts⟩) : PX K mg "BadDrawing" "place" "no such drawing" 0 true := by
  have eF := adr_is gF
  have eC := adr_is gC
  have hE : ECok K F ⟨"BadDrawing", C, "place", 0⟩ := ⟨⟨nm, q, N, bs, sn, sub, ab, col, dd, m0, m1, m2, m3, m5, xL⟩, sa, ga, gg, no, ca, kC, hn, ht⟩
  have hF : FunD K "__init__" "BadDrawing.__init__" (defArgs i_BadDrawing) (defBody i_BadDrawing) (defScope i_BadDrawing) [.non] [] fI _ := ⟨⟨oc1, od1, _, kV1, dc1, pm1, an1, cd1, ct1, sl1, rfl, lI, cI, .inr ⟨by simp, T, _, [.none], tn, rfl, lT, rfl, .cons rfl .nil⟩, .inl rfl⟩, kI⟩
  have g := PySem.W.mg_of X G gC
  constructor
  · rw [eF, eC]; exact hE
  · rw [eC]; exact st
  · rw [eC]; exact g
  · intro P w base
    rw [eC]
    exact xm_d hE hF iC tI ⟨rfl, rfl, rfl, by decide +kernel, rfl, by decide +kernel, by decide +kernel⟩ ⟨_, _, _, _, _, _, _, _, _, _, _, rfl, fun env h => ⟨_, by rfl⟩⟩ (.inl ⟨rfl, PySem.W.mg_of X G gF, b1, b2, b3⟩) rfl (by decide) (.inl rfl) (.inl rfl) (by decide) (by decide) (fun _ _ _ _ _ _ _ _ _ _ => ⟨_, rfl, rfl⟩) (fun _ _ _ _ _ _ _ _ _ _ => ⟨_, rfl, rfl⟩) (fun _ _ _ _ _ _ _ _ _ => ⟨_, rfl, rfl⟩) g

abbrev i_BadColours : Stmt := initS (topS 8)
theorem p_BadColours {K : PySem.W.Frag} {h : Heap} {mg : Str → Option Value} {F C fI N : Addr} {T : Addr} (X : K.In h) (G : h.Ns mainGlobals mg) (gF : PySem.W.nsIn K mainGlobals "FlatError" = some (some (.ref F))) (b1 : PySem.W.specialIn K (.ref F) "__getattribute__" = some (some (.builtin "type.__getattribute__"))) (b2 : PySem.W.readsIn K F (.type "type") = true) (b3 : PySem.W.findCls K (.ref F) (.type "type") "__init__" = some (.val (.builtin "ValueError.__init__")))
    {nm q : Str} {bs : List Value} {sn : List Str} {sub : List Value} {ab : Bool} {col : Option Bool} {dd : Option Addr} {m0 m1 m2 m3 m5 : Option Value} {od1 an1 : Option Addr} {sl1 : Array (Option Value)} {oc1 kV1 dc1 pm1 cd1 ct1 : Value}
    (gC : PySem.W.nsIn K mainGlobals "BadColours" = some (some (.ref C))) (xL : K.lookup C = some (excClassObj nm q C N bs (.ref F :: bmT 0) true sn sub ab col dd m0 m1 m2 m3 m5 "ValueError.__new__"))
    (sa : PySem.W.findIn K (.ref C) "__setattr__" = some (some (.builtin "object.__setattr__"))) (ga : PySem.W.findIn K (.ref C) "__getattribute__" = some (some (.builtin "BaseException.__getattribute__"))) (gg : PySem.W.findIn K (.ref C) "__getattr__" = some none) (no : PySem.W.findIn K (.ref C) "place" = some none)
    (ca : PySem.W.findIn K (.ref C) "__class__" = some (some (.builtin "object.__class__"))) (kC : PySem.W.keepIn K (.ref C) = true) (hn : PySem.W.specialIn K (.builtin "object.__class__") "__get__" = some (some (.builtin "getset_descriptor.__get__"))) (ht : PySem.W.takesIn K (.builtin "object.__class__") = some true)
    (st : PySem.W.findIn K (.ref C) "__str__" = some (some (.builtin "BaseException.__str__"))) (iC : PySem.W.findIn K (.ref C) "__init__" = some (some (.ref fI))) (tI : PySem.W.typeIn K (.ref fI) = some (.type "function")) (kI : PySem.W.keepIn K (.ref fI) = true)
    (lI : K.lookup fI = some ⟨oc1, od1, .func (PySem.W.fnOf "__init__" "BadColours.__init__" (defArgs i_BadColours) (defBody i_BadColours) (defScope i_BadColours) (.ref T) kV1 dc1 pm1 an1 cd1 ct1), sl1⟩) (cI : PySem.W.codeIn K cd1 "BadColours.__init__" = true) {tc : Value} {td : Option Addr} {tn : Nat} {ts : Array (Option Value)} (lT : K.lookup T = some ⟨tc, td, .seq #[.none] tn, ts⟩) : PX K mg "BadColours" "place" "no such colours" 0 true := by
  have eF := adr_is gF
  have eC := adr_is gC
  have hE : ECok K F ⟨"BadColours", C, "place", 0⟩ := ⟨⟨nm, q, N, bs, sn, sub, ab, col, dd, m0, m1, m2, m3, m5, xL⟩, sa, ga, gg, no, ca, kC, hn, ht⟩
  have hF : FunD K "__init__" "BadColours.__init__" (defArgs i_BadColours) (defBody i_BadColours) (defScope i_BadColours) [.non] [] fI _ := ⟨⟨oc1, od1, _, kV1, dc1, pm1, an1, cd1, ct1, sl1, rfl, lI, cI, .inr ⟨by simp, T, _, [.none], tn, rfl, lT, rfl, .cons rfl .nil⟩, .inl rfl⟩, kI⟩
  have g := PySem.W.mg_of X G gC
  constructor
  · rw [eF, eC]; exact hE
  · rw [eC]; exact st
  · rw [eC]; exact g
  · intro P w base
    rw [eC]
    exact xm_d hE hF iC tI ⟨rfl, rfl, rfl, by decide +kernel, rfl, by decide +kernel, by decide +kernel⟩ ⟨_, _, _, _, _, _, _, _, _, _, _, rfl, fun env h => ⟨_, by rfl⟩⟩ (.inl ⟨rfl, PySem.W.mg_of X G gF, b1, b2, b3⟩) rfl (by decide) (.inl rfl) (.inl rfl) (by decide) (by decide) (fun _ _ _ _ _ _ _ _ _ _ => ⟨_, rfl, rfl⟩) (fun _ _ _ _ _ _ _ _ _ _ => ⟨_, rfl, rfl⟩) (fun _ _ _ _ _ _ _ _ _ => ⟨_, rfl, rfl⟩) g

abbrev i_BadTree : Stmt := initS (topS 9)
theorem p_BadTree {K : PySem.W.Frag} {h : Heap} {mg : Str → Option Value} {F C fI N : Addr} {T : Addr} (X : K.In h) (G : h.Ns mainGlobals mg) (gF : PySem.W.nsIn K mainGlobals "FlatError" = some (some (.ref F))) (b1 : PySem.W.specialIn K (.ref F) "__getattribute__" = some (some (.builtin "type.__getattribute__"))) (b2 : PySem.W.readsIn K F (.type "type") = true) (b3 : PySem.W.findCls K (.ref F) (.type "type") "__init__" = some (.val (.builtin "ValueError.__init__")))
    {nm q : Str} {bs : List Value} {sn : List Str} {sub : List Value} {ab : Bool} {col : Option Bool} {dd : Option Addr} {m0 m1 m2 m3 m5 : Option Value} {od1 an1 : Option Addr} {sl1 : Array (Option Value)} {oc1 kV1 dc1 pm1 cd1 ct1 : Value}
    (gC : PySem.W.nsIn K mainGlobals "BadTree" = some (some (.ref C))) (xL : K.lookup C = some (excClassObj nm q C N bs (.ref F :: bmT 0) true sn sub ab col dd m0 m1 m2 m3 m5 "ValueError.__new__"))
    (sa : PySem.W.findIn K (.ref C) "__setattr__" = some (some (.builtin "object.__setattr__"))) (ga : PySem.W.findIn K (.ref C) "__getattribute__" = some (some (.builtin "BaseException.__getattribute__"))) (gg : PySem.W.findIn K (.ref C) "__getattr__" = some none) (no : PySem.W.findIn K (.ref C) "place" = some none)
    (ca : PySem.W.findIn K (.ref C) "__class__" = some (some (.builtin "object.__class__"))) (kC : PySem.W.keepIn K (.ref C) = true) (hn : PySem.W.specialIn K (.builtin "object.__class__") "__get__" = some (some (.builtin "getset_descriptor.__get__"))) (ht : PySem.W.takesIn K (.builtin "object.__class__") = some true)
    (st : PySem.W.findIn K (.ref C) "__str__" = some (some (.builtin "BaseException.__str__"))) (iC : PySem.W.findIn K (.ref C) "__init__" = some (some (.ref fI))) (tI : PySem.W.typeIn K (.ref fI) = some (.type "function")) (kI : PySem.W.keepIn K (.ref fI) = true)
    (lI : K.lookup fI = some ⟨oc1, od1, .func (PySem.W.fnOf "__init__" "BadTree.__init__" (defArgs i_BadTree) (defBody i_BadTree) (defScope i_BadTree) (.ref T) kV1 dc1 pm1 an1 cd1 ct1), sl1⟩) (cI : PySem.W.codeIn K cd1 "BadTree.__init__" = true) {tc : Value} {td : Option Addr} {tn : Nat} {ts : Array (Option Value)} (lT : K.lookup T = some ⟨tc, td, .seq #[.none] tn, ts⟩) : PX K mg "BadTree" "place" "no such tree" 0 true := by
  have eF := adr_is gF
  have eC := adr_is gC
  have hE : ECok K F ⟨"BadTree", C, "place", 0⟩ := ⟨⟨nm, q, N, bs, sn, sub, ab, col, dd, m0, m1, m2, m3, m5, xL⟩, sa, ga, gg, no, ca, kC, hn, ht⟩
  have hF : FunD K "__init__" "BadTree.__init__" (defArgs i_BadTree) (defBody i_BadTree) (defScope i_BadTree) [.non] [] fI _ := ⟨⟨oc1, od1, _, kV1, dc1, pm1, an1, cd1, ct1, sl1, rfl, lI, cI, .inr ⟨by simp, T, _, [.none], tn, rfl, lT, rfl, .cons rfl .nil⟩, .inl rfl⟩, kI⟩
  have g := PySem.W.mg_of X G gC
  constructor
  · rw [eF, eC]; exact hE
  · rw [eC]; exact st
  · rw [eC]; exact g
  · intro P w base
    rw [eC]
    exact xm_d hE hF iC tI ⟨rfl, rfl, rfl, by decide +kernel, rfl, by decide +kernel, by decide +kernel⟩ ⟨_, _, _, _, _, _, _, _, _, _, _, rfl, fun env h => ⟨_, by rfl⟩⟩ (.inl ⟨rfl, PySem.W.mg_of X G gF, b1, b2, b3⟩) rfl (by decide) (.inl rfl) (.inl rfl) (by decide) (by decide) (fun _ _ _ _ _ _ _ _ _ _ => ⟨_, rfl, rfl⟩) (fun _ _ _ _ _ _ _ _ _ _ => ⟨_, rfl, rfl⟩) (fun _ _ _ _ _ _ _ _ _ => ⟨_, rfl, rfl⟩) g

abbrev i_BadGrid : Stmt := initS (topS 10)
theorem p_BadGrid {K : PySem.W.Frag} {h : Heap} {mg : Str → Option Value} {F C fI N : Addr} {T : Addr} (X : K.In h) (G : h.Ns mainGlobals mg) (gF : PySem.W.nsIn K mainGlobals "FlatError" = some (some (.ref F))) (b1 : PySem.W.specialIn K (.ref F) "__getattribute__" = some (some (.builtin "type.__getattribute__"))) (b2 : PySem.W.readsIn K F (.type "type") = true) (b3 : PySem.W.findCls K (.ref F) (.type "type") "__init__" = some (.val (.builtin "ValueError.__init__")))
    {nm q : Str} {bs : List Value} {sn : List Str} {sub : List Value} {ab : Bool} {col : Option Bool} {dd : Option Addr} {m0 m1 m2 m3 m5 : Option Value} {od1 an1 : Option Addr} {sl1 : Array (Option Value)} {oc1 kV1 dc1 pm1 cd1 ct1 : Value}
    (gC : PySem.W.nsIn K mainGlobals "BadGrid" = some (some (.ref C))) (xL : K.lookup C = some (excClassObj nm q C N bs (.ref F :: bmT 0) true sn sub ab col dd m0 m1 m2 m3 m5 "ValueError.__new__"))
    (sa : PySem.W.findIn K (.ref C) "__setattr__" = some (some (.builtin "object.__setattr__"))) (ga : PySem.W.findIn K (.ref C) "__getattribute__" = some (some (.builtin "BaseException.__getattribute__"))) (gg : PySem.W.findIn K (.ref C) "__getattr__" = some none) (no : PySem.W.findIn K (.ref C) "place" = some none)
    (ca : PySem.W.findIn K (.ref C) "__class__" = some (some (.builtin "object.__class__"))) (kC : PySem.W.keepIn K (.ref C) = true) (hn : PySem.W.specialIn K (.builtin "object.__class__") "__get__" = some (some (.builtin "getset_descriptor.__get__"))) (ht : PySem.W.takesIn K (.builtin "object.__class__") = some true)
    (st : PySem.W.findIn K (.ref C) "__str__" = some (some (.builtin "BaseException.__str__"))) (iC : PySem.W.findIn K (.ref C) "__init__" = some (some (.ref fI))) (tI : PySem.W.typeIn K (.ref fI) = some (.type "function")) (kI : PySem.W.keepIn K (.ref fI) = true)
    (lI : K.lookup fI = some ⟨oc1, od1, .func (PySem.W.fnOf "__init__" "BadGrid.__init__" (defArgs i_BadGrid) (defBody i_BadGrid) (defScope i_BadGrid) (.ref T) kV1 dc1 pm1 an1 cd1 ct1), sl1⟩) (cI : PySem.W.codeIn K cd1 "BadGrid.__init__" = true) {tc : Value} {td : Option Addr} {tn : Nat} {ts : Array (Option Value)} (lT : K.lookup T = some ⟨tc, td, .seq #[.none] tn, ts⟩) : PX K mg "BadGrid" "place" "no such grid" 0 true := by
  have eF := adr_is gF
  have eC := adr_is gC
  have hE : ECok K F ⟨"BadGrid", C, "place", 0⟩ := ⟨⟨nm, q, N, bs, sn, sub, ab, col, dd, m0, m1, m2, m3, m5, xL⟩, sa, ga, gg, no, ca, kC, hn, ht⟩
  have hF : FunD K "__init__" "BadGrid.__init__" (defArgs i_BadGrid) (defBody i_BadGrid) (defScope i_BadGrid) [.non] [] fI _ := ⟨⟨oc1, od1, _, kV1, dc1, pm1, an1, cd1, ct1, sl1, rfl, lI, cI, .inr ⟨by simp, T, _, [.none], tn, rfl, lT, rfl, .cons rfl .nil⟩, .inl rfl⟩, kI⟩
  have g := PySem.W.mg_of X G gC
  constructor
  · rw [eF, eC]; exact hE
  · rw [eC]; exact st
  · rw [eC]; exact g
  · intro P w base
    rw [eC]
    exact xm_d hE hF iC tI ⟨rfl, rfl, rfl, by decide +kernel, rfl, by decide +kernel, by decide +kernel⟩ ⟨_, _, _, _, _, _, _, _, _, _, _, rfl, fun env h => ⟨_, by rfl⟩⟩ (.inl ⟨rfl, PySem.W.mg_of X G gF, b1, b2, b3⟩) rfl (by decide) (.inl rfl) (.inl rfl) (by decide) (by decide) (fun _ _ _ _ _ _ _ _ _ _ => ⟨_, rfl, rfl⟩) (fun _ _ _ _ _ _ _ _ _ _ => ⟨_, rfl, rfl⟩) (fun _ _ _ _ _ _ _ _ _ => ⟨_, rfl, rfl⟩) g

abbrev i_BadBody : Stmt := initS (topS 11)
theorem p_BadBody {K : PySem.W.Frag} {h : Heap} {mg : Str → Option Value} {F C fI N : Addr} {T : Addr} (X : K.In h) (G : h.Ns mainGlobals mg) (gF : PySem.W.nsIn K mainGlobals "FlatError" = some (some (.ref F))) (b1 : PySem.W.specialIn K (.ref F) "__getattribute__" = some (some (.builtin "type.__getattribute__"))) (b2 : PySem.W.readsIn K F (.type "type") = true) (b3 : PySem.W.findCls K (.ref F) (.type "type") "__init__" = some (.val (.builtin "ValueError.__init__")))
    {nm q : Str} {bs : List Value} {sn : List Str} {sub : List Value} {ab : Bool} {col : Option Bool} {dd : Option Addr} {m0 m1 m2 m3 m5 : Option Value} {od1 an1 : Option Addr} {sl1 : Array (Option Value)} {oc1 kV1 dc1 pm1 cd1 ct1 : Value}
    (gC : PySem.W.nsIn K mainGlobals "BadBody" = some (some (.ref C))) (xL : K.lookup C = some (excClassObj nm q C N bs (.ref F :: bmT 0) true sn sub ab col dd m0 m1 m2 m3 m5 "ValueError.__new__"))
    (sa : PySem.W.findIn K (.ref C) "__setattr__" = some (some (.builtin "object.__setattr__"))) (ga : PySem.W.findIn K (.ref C) "__getattribute__" = some (some (.builtin "BaseException.__getattribute__"))) (gg : PySem.W.findIn K (.ref C) "__getattr__" = some none) (no : PySem.W.findIn K (.ref C) "place" = some none)
    (ca : PySem.W.findIn K (.ref C) "__class__" = some (some (.builtin "object.__class__"))) (kC : PySem.W.keepIn K (.ref C) = true) (hn : PySem.W.specialIn K (.builtin "object.__class__") "__get__" = some (some (.builtin "getset_descriptor.__get__"))) (ht : PySem.W.takesIn K (.builtin "object.__class__") = some true)
    (st : PySem.W.findIn K (.ref C) "__str__" = some (some (.builtin "BaseException.__str__"))) (iC : PySem.W.findIn K (.ref C) "__init__" = some (some (.ref fI))) (tI : PySem.W.typeIn K (.ref fI) = some (.type "function")) (kI : PySem.W.keepIn K (.ref fI) = true)
    (lI : K.lookup fI = some ⟨oc1, od1, .func (PySem.W.fnOf "__init__" "BadBody.__init__" (defArgs i_BadBody) (defBody i_BadBody) (defScope i_BadBody) (.ref T) kV1 dc1 pm1 an1 cd1 ct1), sl1⟩) (cI : PySem.W.codeIn K cd1 "BadBody.__init__" = true) {tc : Value} {td : Option Addr} {tn : Nat} {ts : Array (Option Value)} (lT : K.lookup T = some ⟨tc, td, .seq #[.none] tn, ts⟩) : PX K mg "BadBody" "place" "no such body" 0 true := by
  have eF := adr_is gF
  have eC := adr_is gC
  have hE : ECok K F ⟨"BadBody", C, "place", 0⟩ := ⟨⟨nm, q, N, bs, sn, sub, ab, col, dd, m0, m1, m2, m3, m5, xL⟩, sa, ga, gg, no, ca, kC, hn, ht⟩
  have hF : FunD K "__init__" "BadBody.__init__" (defArgs i_BadBody) (defBody i_BadBody) (defScope i_BadBody) [.non] [] fI _ := ⟨⟨oc1, od1, _, kV1, dc1, pm1, an1, cd1, ct1, sl1, rfl, lI, cI, .inr ⟨by simp, T, _, [.none], tn, rfl, lT, rfl, .cons rfl .nil⟩, .inl rfl⟩, kI⟩
  have g := PySem.W.mg_of X G gC
  constructor
  · rw [eF, eC]; exact hE
  · rw [eC]; exact st
  · rw [eC]; exact g
  · intro P w base
    rw [eC]
    exact xm_d hE hF iC tI ⟨rfl, rfl, rfl, by decide +kernel, rfl, by decide +kernel, by decide +kernel⟩ ⟨_, _, _, _, _, _, _, _, _, _, _, rfl, fun env h => ⟨_, by rfl⟩⟩ (.inl ⟨rfl, PySem.W.mg_of X G gF, b1, b2, b3⟩) rfl (by decide) (.inl rfl) (.inl rfl) (by decide) (by decide) (fun _ _ _ _ _ _ _ _ _ _ => ⟨_, rfl, rfl⟩) (fun _ _ _ _ _ _ _ _ _ _ => ⟨_, rfl, rfl⟩) (fun _ _ _ _ _ _ _ _ _ => ⟨_, rfl, rfl⟩) g

abbrev i_BadOrder : Stmt := initS (topS 12)
theorem p_BadOrder {K : PySem.W.Frag} {h : Heap} {mg : Str → Option Value} {F C fI N : Addr} {T : Addr} (X : K.In h) (G : h.Ns mainGlobals mg) (gF : PySem.W.nsIn K mainGlobals "FlatError" = some (some (.ref F))) (b1 : PySem.W.specialIn K (.ref F) "__getattribute__" = some (some (.builtin "type.__getattribute__"))) (b2 : PySem.W.readsIn K F (.type "type") = true) (b3 : PySem.W.findCls K (.ref F) (.type "type") "__init__" = some (.val (.builtin "ValueError.__init__")))
    {nm q : Str} {bs : List Value} {sn : List Str} {sub : List Value} {ab : Bool} {col : Option Bool} {dd : Option Addr} {m0 m1 m2 m3 m5 : Option Value} {od1 an1 : Option Addr} {sl1 : Array (Option Value)} {oc1 kV1 dc1 pm1 cd1 ct1 : Value}
    (gC : PySem.W.nsIn K mainGlobals "BadOrder" = some (some (.ref C))) (xL : K.lookup C = some (excClassObj nm q C N bs (.ref F :: bmT 0) true sn sub ab col dd m0 m1 m2 m3 m5 "ValueError.__new__"))
    (sa : PySem.W.findIn K (.ref C) "__setattr__" = some (some (.builtin "object.__setattr__"))) (ga : PySem.W.findIn K (.ref C) "__getattribute__" = some (some (.builtin "BaseException.__getattribute__"))) (gg : PySem.W.findIn K (.ref C) "__getattr__" = some none) (no : PySem.W.findIn K (.ref C) "place" = some none)
    (ca : PySem.W.findIn K (.ref C) "__class__" = some (some (.builtin "object.__class__"))) (kC : PySem.W.keepIn K (.ref C) = true) (hn : PySem.W.specialIn K (.builtin "object.__class__") "__get__" = some (some (.builtin "getset_descriptor.__get__"))) (ht : PySem.W.takesIn K (.builtin "object.__class__") = some true)
    (st : PySem.W.findIn K (.ref C) "__str__" = some (some (.builtin "BaseException.__str__"))) (iC : PySem.W.findIn K (.ref C) "__init__" = some (some (.ref fI))) (tI : PySem.W.typeIn K (.ref fI) = some (.type "function")) (kI : PySem.W.keepIn K (.ref fI) = true)
    (lI : K.lookup fI = some ⟨oc1, od1, .func (PySem.W.fnOf "__init__" "BadOrder.__init__" (defArgs i_BadOrder) (defBody i_BadOrder) (defScope i_BadOrder) (.ref T) kV1 dc1 pm1 an1 cd1 ct1), sl1⟩) (cI : PySem.W.codeIn K cd1 "BadOrder.__init__" = true) {tc : Value} {td : Option Addr} {tn : Nat} {ts : Array (Option Value)} (lT : K.lookup T = some ⟨tc, td, .seq #[.none] tn, ts⟩) : PX K mg "BadOrder" "place" "no such order" 0 true := by
  have eF := adr_is gF
  have eC := adr_is gC
  have hE : ECok K F ⟨"BadOrder", C, "place", 0⟩ := ⟨⟨nm, q, N, bs, sn, sub, ab, col, dd, m0, m1, m2, m3, m5, xL⟩, sa, ga, gg, no, ca, kC, hn, ht⟩
  have hF : FunD K "__init__" "BadOrder.__init__" (defArgs i_BadOrder) (defBody i_BadOrder) (defScope i_BadOrder) [.non] [] fI _ := ⟨⟨oc1, od1, _, kV1, dc1, pm1, an1, cd1, ct1, sl1, rfl, lI, cI, .inr ⟨by simp, T, _, [.none], tn, rfl, lT, rfl, .cons rfl .nil⟩, .inl rfl⟩, kI⟩
  have g := PySem.W.mg_of X G gC
  constructor
  · rw [eF, eC]; exact hE
  · rw [eC]; exact st
  · rw [eC]; exact g
  · intro P w base
    rw [eC]
    exact xm_d hE hF iC tI ⟨rfl, rfl, rfl, by decide +kernel, rfl, by decide +kernel, by decide +kernel⟩ ⟨_, _, _, _, _, _, _, _, _, _, _, rfl, fun env h => ⟨_, by rfl⟩⟩ (.inl ⟨rfl, PySem.W.mg_of X G gF, b1, b2, b3⟩) rfl (by decide) (.inl rfl) (.inl rfl) (by decide) (by decide) (fun _ _ _ _ _ _ _ _ _ _ => ⟨_, rfl, rfl⟩) (fun _ _ _ _ _ _ _ _ _ _ => ⟨_, rfl, rfl⟩) (fun _ _ _ _ _ _ _ _ _ => ⟨_, rfl, rfl⟩) g

abbrev i_BadPlan : Stmt := initS (topS 13)
theorem p_BadPlan {K : PySem.W.Frag} {h : Heap} {mg : Str → Option Value} {F C fI N : Addr} {T : Addr} (X : K.In h) (G : h.Ns mainGlobals mg) (gF : PySem.W.nsIn K mainGlobals "FlatError" = some (some (.ref F))) (b1 : PySem.W.specialIn K (.ref F) "__getattribute__" = some (some (.builtin "type.__getattribute__"))) (b2 : PySem.W.readsIn K F (.type "type") = true) (b3 : PySem.W.findCls K (.ref F) (.type "type") "__init__" = some (.val (.builtin "ValueError.__init__")))
    {nm q : Str} {bs : List Value} {sn : List Str} {sub : List Value} {ab : Bool} {col : Option Bool} {dd : Option Addr} {m0 m1 m2 m3 m5 : Option Value} {od1 an1 : Option Addr} {sl1 : Array (Option Value)} {oc1 kV1 dc1 pm1 cd1 ct1 : Value}
    (gC : PySem.W.nsIn K mainGlobals "BadPlan" = some (some (.ref C))) (xL : K.lookup C = some (excClassObj nm q C N bs (.ref F :: bmT 0) true sn sub ab col dd m0 m1 m2 m3 m5 "ValueError.__new__"))
    (sa : PySem.W.findIn K (.ref C) "__setattr__" = some (some (.builtin "object.__setattr__"))) (ga : PySem.W.findIn K (.ref C) "__getattribute__" = some (some (.builtin "BaseException.__getattribute__"))) (gg : PySem.W.findIn K (.ref C) "__getattr__" = some none) (no : PySem.W.findIn K (.ref C) "place" = some none)
    (ca : PySem.W.findIn K (.ref C) "__class__" = some (some (.builtin "object.__class__"))) (kC : PySem.W.keepIn K (.ref C) = true) (hn : PySem.W.specialIn K (.builtin "object.__class__") "__get__" = some (some (.builtin "getset_descriptor.__get__"))) (ht : PySem.W.takesIn K (.builtin "object.__class__") = some true)
    (st : PySem.W.findIn K (.ref C) "__str__" = some (some (.builtin "BaseException.__str__"))) (iC : PySem.W.findIn K (.ref C) "__init__" = some (some (.ref fI))) (tI : PySem.W.typeIn K (.ref fI) = some (.type "function")) (kI : PySem.W.keepIn K (.ref fI) = true)
    (lI : K.lookup fI = some ⟨oc1, od1, .func (PySem.W.fnOf "__init__" "BadPlan.__init__" (defArgs i_BadPlan) (defBody i_BadPlan) (defScope i_BadPlan) (.ref T) kV1 dc1 pm1 an1 cd1 ct1), sl1⟩) (cI : PySem.W.codeIn K cd1 "BadPlan.__init__" = true) {tc : Value} {td : Option Addr} {tn : Nat} {ts : Array (Option Value)} (lT : K.lookup T = some ⟨tc, td, .seq #[.none] tn, ts⟩) : PX K mg "BadPlan" "place" "no such plan" 0 true := by
  have eF := adr_is gF
  have eC := adr_is gC
  have hE : ECok K F ⟨"BadPlan", C, "place", 0⟩ := ⟨⟨nm, q, N, bs, sn, sub, ab, col, dd, m0, m1, m2, m3, m5, xL⟩, sa, ga, gg, no, ca, kC, hn, ht⟩
  have hF : FunD K "__init__" "BadPlan.__init__" (defArgs i_BadPlan) (defBody i_BadPlan) (defScope i_BadPlan) [.non] [] fI _ := ⟨⟨oc1, od1, _, kV1, dc1, pm1, an1, cd1, ct1, sl1, rfl, lI, cI, .inr ⟨by simp, T, _, [.none], tn, rfl, lT, rfl, .cons rfl .nil⟩, .inl rfl⟩, kI⟩
  have g := PySem.W.mg_of X G gC
  constructor
  · rw [eF, eC]; exact hE
  · rw [eC]; exact st
  · rw [eC]; exact g
  · intro P w base
    rw [eC]
    exact xm_d hE hF iC tI ⟨rfl, rfl, rfl, by decide +kernel, rfl, by decide +kernel, by decide +kernel⟩ ⟨_, _, _, _, _, _, _, _, _, _, _, rfl, fun env h => ⟨_, by rfl⟩⟩ (.inl ⟨rfl, PySem.W.mg_of X G gF, b1, b2, b3⟩) rfl (by decide) (.inl rfl) (.inl rfl) (by decide) (by decide) (fun _ _ _ _ _ _ _ _ _ _ => ⟨_, rfl, rfl⟩) (fun _ _ _ _ _ _ _ _ _ _ => ⟨_, rfl, rfl⟩) (fun _ _ _ _ _ _ _ _ _ => ⟨_, rfl, rfl⟩) g

abbrev i_BadBars : Stmt := initS (topS 14)
theorem p_BadBars {K : PySem.W.Frag} {h : Heap} {mg : Str → Option Value} {F C fI N : Addr} {T : Addr} (X : K.In h) (G : h.Ns mainGlobals mg) (gF : PySem.W.nsIn K mainGlobals "FlatError" = some (some (.ref F))) (b1 : PySem.W.specialIn K (.ref F) "__getattribute__" = some (some (.builtin "type.__getattribute__"))) (b2 : PySem.W.readsIn K F (.type "type") = true) (b3 : PySem.W.findCls K (.ref F) (.type "type") "__init__" = some (.val (.builtin "ValueError.__init__")))
    {nm q : Str} {bs : List Value} {sn : List Str} {sub : List Value} {ab : Bool} {col : Option Bool} {dd : Option Addr} {m0 m1 m2 m3 m5 : Option Value} {od1 an1 : Option Addr} {sl1 : Array (Option Value)} {oc1 kV1 dc1 pm1 cd1 ct1 : Value}
    (gC : PySem.W.nsIn K mainGlobals "BadBars" = some (some (.ref C))) (xL : K.lookup C = some (excClassObj nm q C N bs (.ref F :: bmT 0) true sn sub ab col dd m0 m1 m2 m3 m5 "ValueError.__new__"))
    (sa : PySem.W.findIn K (.ref C) "__setattr__" = some (some (.builtin "object.__setattr__"))) (ga : PySem.W.findIn K (.ref C) "__getattribute__" = some (some (.builtin "BaseException.__getattribute__"))) (gg : PySem.W.findIn K (.ref C) "__getattr__" = some none) (no : PySem.W.findIn K (.ref C) "place" = some none)
    (ca : PySem.W.findIn K (.ref C) "__class__" = some (some (.builtin "object.__class__"))) (kC : PySem.W.keepIn K (.ref C) = true) (hn : PySem.W.specialIn K (.builtin "object.__class__") "__get__" = some (some (.builtin "getset_descriptor.__get__"))) (ht : PySem.W.takesIn K (.builtin "object.__class__") = some true)
    (st : PySem.W.findIn K (.ref C) "__str__" = some (some (.builtin "BaseException.__str__"))) (iC : PySem.W.findIn K (.ref C) "__init__" = some (some (.ref fI))) (tI : PySem.W.typeIn K (.ref fI) = some (.type "function")) (kI : PySem.W.keepIn K (.ref fI) = true)
    (lI : K.lookup fI = some ⟨oc1, od1, .func (PySem.W.fnOf "__init__" "BadBars.__init__" (defArgs i_BadBars) (defBody i_BadBars) (defScope i_BadBars) (.ref T) kV1 dc1 pm1 an1 cd1 ct1), sl1⟩) (cI : PySem.W.codeIn K cd1 "BadBars.__init__" = true) {tc : Value} {td : Option Addr} {tn : Nat} {ts : Array (Option Value)} (lT : K.lookup T = some ⟨tc, td, .seq #[.none] tn, ts⟩) : PX K mg "BadBars" "place" "no such bars" 0 true := by
  have eF := adr_is gF
  have eC := adr_is gC
  have hE : ECok K F ⟨"BadBars", C, "place", 0⟩ := ⟨⟨nm, q, N, bs, sn, sub, ab, col, dd, m0, m1, m2, m3, m5, xL⟩, sa, ga, gg, no, ca, kC, hn, ht⟩
  have hF : FunD K "__init__" "BadBars.__init__" (defArgs i_BadBars) (defBody i_BadBars) (defScope i_BadBars) [.non] [] fI _ := ⟨⟨oc1, od1, _, kV1, dc1, pm1, an1, cd1, ct1, sl1, rfl, lI, cI, .inr ⟨by simp, T, _, [.none], tn, rfl, lT, rfl, .cons rfl .nil⟩, .inl rfl⟩, kI⟩
  have g := PySem.W.mg_of X G gC
  constructor
  · rw [eF, eC]; exact hE
  · rw [eC]; exact st
  · rw [eC]; exact g
  · intro P w base
    rw [eC]
    exact xm_d hE hF iC tI ⟨rfl, rfl, rfl, by decide +kernel, rfl, by decide +kernel, by decide +kernel⟩ ⟨_, _, _, _, _, _, _, _, _, _, _, rfl, fun env h => ⟨_, by rfl⟩⟩ (.inl ⟨rfl, PySem.W.mg_of X G gF, b1, b2, b3⟩) rfl (by decide) (.inl rfl) (.inl rfl) (by decide) (by decide) (fun _ _ _ _ _ _ _ _ _ _ => ⟨_, rfl, rfl⟩) (fun _ _ _ _ _ _ _ _ _ _ => ⟨_, rfl, rfl⟩) (fun _ _ _ _ _ _ _ _ _ => ⟨_, rfl, rfl⟩) g

abbrev i_BadSurface : Stmt := initS (topS 15)
theorem p_BadSurface {K : PySem.W.Frag} {h : Heap} {mg : Str → Option Value} {F C fI N : Addr} {T : Addr} (X : K.In h) (G : h.Ns mainGlobals mg) (gF : PySem.W.nsIn K mainGlobals "FlatError" = some (some (.ref F))) (b1 : PySem.W.specialIn K (.ref F) "__getattribute__" = some (some (.builtin "type.__getattribute__"))) (b2 : PySem.W.readsIn K F (.type "type") = true) (b3 : PySem.W.findCls K (.ref F) (.type "type") "__init__" = some (.val (.builtin "ValueError.__init__")))
    {nm q : Str} {bs : List Value} {sn : List Str} {sub : List Value} {ab : Bool} {col : Option Bool} {dd : Option Addr} {m0 m1 m2 m3 m5 : Option Value} {od1 an1 : Option Addr} {sl1 : Array (Option Value)} {oc1 kV1 dc1 pm1 cd1 ct1 : Value}
    (gC : PySem.W.nsIn K mainGlobals "BadSurface" = some (some (.ref C))) (xL : K.lookup C = some (excClassObj nm q C N bs (.ref F :: bmT 0) true sn sub ab col dd m0 m1 m2 m3 m5 "ValueError.__new__"))
    (sa : PySem.W.findIn K (.ref C) "__setattr__" = some (some (.builtin "object.__setattr__"))) (ga : PySem.W.findIn K (.ref C) "__getattribute__" = some (some (.builtin "BaseException.__getattribute__"))) (gg : PySem.W.findIn K (.ref C) "__getattr__" = some none) (no : PySem.W.findIn K (.ref C) "place" = some none)
    (ca : PySem.W.findIn K (.ref C) "__class__" = some (some (.builtin "object.__class__"))) (kC : PySem.W.keepIn K (.ref C) = true) (hn : PySem.W.specialIn K (.builtin "object.__class__") "__get__" = some (some (.builtin "getset_descriptor.__get__"))) (ht : PySem.W.takesIn K (.builtin "object.__class__") = some true)
    (st : PySem.W.findIn K (.ref C) "__str__" = some (some (.builtin "BaseException.__str__"))) (iC : PySem.W.findIn K (.ref C) "__init__" = some (some (.ref fI))) (tI : PySem.W.typeIn K (.ref fI) = some (.type "function")) (kI : PySem.W.keepIn K (.ref fI) = true)
    (lI : K.lookup fI = some ⟨oc1, od1, .func (PySem.W.fnOf "__init__" "BadSurface.__init__" (defArgs i_BadSurface) (defBody i_BadSurface) (defScope i_BadSurface) (.ref T) kV1 dc1 pm1 an1 cd1 ct1), sl1⟩) (cI : PySem.W.codeIn K cd1 "BadSurface.__init__" = true) {tc : Value} {td : Option Addr} {tn : Nat} {ts : Array (Option Value)} (lT : K.lookup T = some ⟨tc, td, .seq #[.none] tn, ts⟩) : PX K mg "BadSurface" "place" "no such surface" 0 true := by
  have eF := adr_is gF
  have eC := adr_is gC
  have hE : ECok K F ⟨"BadSurface", C, "place", 0⟩ := ⟨⟨nm, q, N, bs, sn, sub, ab, col, dd, m0, m1, m2, m3, m5, xL⟩, sa, ga, gg, no, ca, kC, hn, ht⟩
  have hF : FunD K "__init__" "BadSurface.__init__" (defArgs i_BadSurface) (defBody i_BadSurface) (defScope i_BadSurface) [.non] [] fI _ := ⟨⟨oc1, od1, _, kV1, dc1, pm1, an1, cd1, ct1, sl1, rfl, lI, cI, .inr ⟨by simp, T, _, [.none], tn, rfl, lT, rfl, .cons rfl .nil⟩, .inl rfl⟩, kI⟩
  have g := PySem.W.mg_of X G gC
  constructor
  · rw [eF, eC]; exact hE
  · rw [eC]; exact st
  · rw [eC]; exact g
  · intro P w base
    rw [eC]
    exact xm_d hE hF iC tI ⟨rfl, rfl, rfl, by decide +kernel, rfl, by decide +kernel, by decide +kernel⟩ ⟨_, _, _, _, _, _, _, _, _, _, _, rfl, fun env h => ⟨_, by rfl⟩⟩ (.inl ⟨rfl, PySem.W.mg_of X G gF, b1, b2, b3⟩) rfl (by decide) (.inl rfl) (.inl rfl) (by decide) (by decide) (fun _ _ _ _ _ _ _ _ _ _ => ⟨_, rfl, rfl⟩) (fun _ _ _ _ _ _ _ _ _ _ => ⟨_, rfl, rfl⟩) (fun _ _ _ _ _ _ _ _ _ => ⟨_, rfl, rfl⟩) g

abbrev i_BadMap : Stmt := initS (topS 16)
theorem p_BadMap {K : PySem.W.Frag} {h : Heap} {mg : Str → Option Value} {F C fI N : Addr} {T : Addr} (X : K.In h) (G : h.Ns mainGlobals mg) (gF : PySem.W.nsIn K mainGlobals "FlatError" = some (some (.ref F))) (b1 : PySem.W.specialIn K (.ref F) "__getattribute__" = some (some (.builtin "type.__getattribute__"))) (b2 : PySem.W.readsIn K F (.type "type") = true) (b3 : PySem.W.findCls K (.ref F) (.type "type") "__init__" = some (.val (.builtin "ValueError.__init__")))
    {nm q : Str} {bs : List Value} {sn : List Str} {sub : List Value} {ab : Bool} {col : Option Bool} {dd : Option Addr} {m0 m1 m2 m3 m5 : Option Value} {od1 an1 : Option Addr} {sl1 : Array (Option Value)} {oc1 kV1 dc1 pm1 cd1 ct1 : Value}
    (gC : PySem.W.nsIn K mainGlobals "BadMap" = some (some (.ref C))) (xL : K.lookup C = some (excClassObj nm q C N bs (.ref F :: bmT 0) true sn sub ab col dd m0 m1 m2 m3 m5 "ValueError.__new__"))
    (sa : PySem.W.findIn K (.ref C) "__setattr__" = some (some (.builtin "object.__setattr__"))) (ga : PySem.W.findIn K (.ref C) "__getattribute__" = some (some (.builtin "BaseException.__getattribute__"))) (gg : PySem.W.findIn K (.ref C) "__getattr__" = some none) (no : PySem.W.findIn K (.ref C) "place" = some none)
    (ca : PySem.W.findIn K (.ref C) "__class__" = some (some (.builtin "object.__class__"))) (kC : PySem.W.keepIn K (.ref C) = true) (hn : PySem.W.specialIn K (.builtin "object.__class__") "__get__" = some (some (.builtin "getset_descriptor.__get__"))) (ht : PySem.W.takesIn K (.builtin "object.__class__") = some true)
    (st : PySem.W.findIn K (.ref C) "__str__" = some (some (.builtin "BaseException.__str__"))) (iC : PySem.W.findIn K (.ref C) "__init__" = some (some (.ref fI))) (tI : PySem.W.typeIn K (.ref fI) = some (.type "function")) (kI : PySem.W.keepIn K (.ref fI) = true)
    (lI : K.lookup fI = some ⟨oc1, od1, .func (PySem.W.fnOf "__init__" "BadMap.__init__" (defArgs i_BadMap) (defBody i_BadMap) (defScope i_BadMap) (.ref T) kV1 dc1 pm1 an1 cd1 ct1), sl1⟩) (cI : PySem.W.codeIn K cd1 "BadMap.__init__" = true) {tc : Value} {td : Option Addr} {tn : Nat} {ts : Array (Option Value)} (lT : K.lookup T = some ⟨tc, td, .seq #[.none] tn, ts⟩) : PX K mg "BadMap" "place" "no such permutation" 0 true := by
  have eF := adr_is gF
  have eC := adr_is gC
  have hE : ECok K F ⟨"BadMap", C, "place", 0⟩ := ⟨⟨nm, q, N, bs, sn, sub, ab, col, dd, m0, m1, m2, m3, m5, xL⟩, sa, ga, gg, no, ca, kC, hn, ht⟩
  have hF : FunD K "__init__" "BadMap.__init__" (defArgs i_BadMap) (defBody i_BadMap) (defScope i_BadMap) [.non] [] fI _ := ⟨⟨oc1, od1, _, kV1, dc1, pm1, an1, cd1, ct1, sl1, rfl, lI, cI, .inr ⟨by simp, T, _, [.none], tn, rfl, lT, rfl, .cons rfl .nil⟩, .inl rfl⟩, kI⟩
  have g := PySem.W.mg_of X G gC
  constructor
  · rw [eF, eC]; exact hE
  · rw [eC]; exact st
  · rw [eC]; exact g
  · intro P w base
    rw [eC]
    exact xm_d hE hF iC tI ⟨rfl, rfl, rfl, by decide +kernel, rfl, by decide +kernel, by decide +kernel⟩ ⟨_, _, _, _, _, _, _, _, _, _, _, rfl, fun env h => ⟨_, by rfl⟩⟩ (.inl ⟨rfl, PySem.W.mg_of X G gF, b1, b2, b3⟩) rfl (by decide) (.inl rfl) (.inl rfl) (by decide) (by decide) (fun _ _ _ _ _ _ _ _ _ _ => ⟨_, rfl, rfl⟩) (fun _ _ _ _ _ _ _ _ _ _ => ⟨_, rfl, rfl⟩) (fun _ _ _ _ _ _ _ _ _ => ⟨_, rfl, rfl⟩) g

abbrev i_BadText : Stmt := initS (topS 17)
theorem p_BadText {K : PySem.W.Frag} {h : Heap} {mg : Str → Option Value} {F C fI N : Addr} {T : Addr} (X : K.In h) (G : h.Ns mainGlobals mg) (gF : PySem.W.nsIn K mainGlobals "FlatError" = some (some (.ref F))) (b1 : PySem.W.specialIn K (.ref F) "__getattribute__" = some (some (.builtin "type.__getattribute__"))) (b2 : PySem.W.readsIn K F (.type "type") = true) (b3 : PySem.W.findCls K (.ref F) (.type "type") "__init__" = some (.val (.builtin "ValueError.__init__")))
    {nm q : Str} {bs : List Value} {sn : List Str} {sub : List Value} {ab : Bool} {col : Option Bool} {dd : Option Addr} {m0 m1 m2 m3 m5 : Option Value} {od1 an1 : Option Addr} {sl1 : Array (Option Value)} {oc1 kV1 dc1 pm1 cd1 ct1 : Value}
    (gC : PySem.W.nsIn K mainGlobals "BadText" = some (some (.ref C))) (xL : K.lookup C = some (excClassObj nm q C N bs (.ref F :: bmT 0) true sn sub ab col dd m0 m1 m2 m3 m5 "ValueError.__new__"))
    (sa : PySem.W.findIn K (.ref C) "__setattr__" = some (some (.builtin "object.__setattr__"))) (ga : PySem.W.findIn K (.ref C) "__getattribute__" = some (some (.builtin "BaseException.__getattribute__"))) (gg : PySem.W.findIn K (.ref C) "__getattr__" = some none) (no : PySem.W.findIn K (.ref C) "place" = some none)
    (ca : PySem.W.findIn K (.ref C) "__class__" = some (some (.builtin "object.__class__"))) (kC : PySem.W.keepIn K (.ref C) = true) (hn : PySem.W.specialIn K (.builtin "object.__class__") "__get__" = some (some (.builtin "getset_descriptor.__get__"))) (ht : PySem.W.takesIn K (.builtin "object.__class__") = some true)
    (st : PySem.W.findIn K (.ref C) "__str__" = some (some (.builtin "BaseException.__str__"))) (iC : PySem.W.findIn K (.ref C) "__init__" = some (some (.ref fI))) (tI : PySem.W.typeIn K (.ref fI) = some (.type "function")) (kI : PySem.W.keepIn K (.ref fI) = true)
    (lI : K.lookup fI = some ⟨oc1, od1, .func (PySem.W.fnOf "__init__" "BadText.__init__" (defArgs i_BadText) (defBody i_BadText) (defScope i_BadText) (.ref T) kV1 dc1 pm1 an1 cd1 ct1), sl1⟩) (cI : PySem.W.codeIn K cd1 "BadText.__init__" = true) {tc : Value} {td : Option Addr} {tn : Nat} {ts : Array (Option Value)} (lT : K.lookup T = some ⟨tc, td, .seq #[.none] tn, ts⟩) : PX K mg "BadText" "place" "no such text" 0 true := by
  have eF := adr_is gF
  have eC := adr_is gC
  have hE : ECok K F ⟨"BadText", C, "place", 0⟩ := ⟨⟨nm, q, N, bs, sn, sub, ab, col, dd, m0, m1, m2, m3, m5, xL⟩, sa, ga, gg, no, ca, kC, hn, ht⟩
  have hF : FunD K "__init__" "BadText.__init__" (defArgs i_BadText) (defBody i_BadText) (defScope i_BadText) [.non] [] fI _ := ⟨⟨oc1, od1, _, kV1, dc1, pm1, an1, cd1, ct1, sl1, rfl, lI, cI, .inr ⟨by simp, T, _, [.none], tn, rfl, lT, rfl, .cons rfl .nil⟩, .inl rfl⟩, kI⟩
  have g := PySem.W.mg_of X G gC
  constructor
  · rw [eF, eC]; exact hE
  · rw [eC]; exact st
  · rw [eC]; exact g
  · intro P w base
    rw [eC]
    exact xm_d hE hF iC tI ⟨rfl, rfl, rfl, by decide +kernel, rfl, by decide +kernel, by decide +kernel⟩ ⟨_, _, _, _, _, _, _, _, _, _, _, rfl, fun env h => ⟨_, by rfl⟩⟩ (.inl ⟨rfl, PySem.W.mg_of X G gF, b1, b2, b3⟩) rfl (by decide) (.inl rfl) (.inl rfl) (by decide) (by decide) (fun _ _ _ _ _ _ _ _ _ _ => ⟨_, rfl, rfl⟩) (fun _ _ _ _ _ _ _ _ _ _ => ⟨_, rfl, rfl⟩) (fun _ _ _ _ _ _ _ _ _ => ⟨_, rfl, rfl⟩) g

abbrev i_BadPaper : Stmt := initS (topS 18)
theorem p_BadPaper {K : PySem.W.Frag} {h : Heap} {mg : Str → Option Value} {F C fI N : Addr} {T : Addr} (X : K.In h) (G : h.Ns mainGlobals mg) (gF : PySem.W.nsIn K mainGlobals "FlatError" = some (some (.ref F))) (b1 : PySem.W.specialIn K (.ref F) "__getattribute__" = some (some (.builtin "type.__getattribute__"))) (b2 : PySem.W.readsIn K F (.type "type") = true) (b3 : PySem.W.findCls K (.ref F) (.type "type") "__init__" = some (.val (.builtin "ValueError.__init__")))
    {nm q : Str} {bs : List Value} {sn : List Str} {sub : List Value} {ab : Bool} {col : Option Bool} {dd : Option Addr} {m0 m1 m2 m3 m5 : Option Value} {od1 an1 : Option Addr} {sl1 : Array (Option Value)} {oc1 kV1 dc1 pm1 cd1 ct1 : Value}
    (gC : PySem.W.nsIn K mainGlobals "BadPaper" = some (some (.ref C))) (xL : K.lookup C = some (excClassObj nm q C N bs (.ref F :: bmT 0) true sn sub ab col dd m0 m1 m2 m3 m5 "ValueError.__new__"))
    (sa : PySem.W.findIn K (.ref C) "__setattr__" = some (some (.builtin "object.__setattr__"))) (ga : PySem.W.findIn K (.ref C) "__getattribute__" = some (some (.builtin "BaseException.__getattribute__"))) (gg : PySem.W.findIn K (.ref C) "__getattr__" = some none) (no : PySem.W.findIn K (.ref C) "place" = some none)
    (ca : PySem.W.findIn K (.ref C) "__class__" = some (some (.builtin "object.__class__"))) (kC : PySem.W.keepIn K (.ref C) = true) (hn : PySem.W.specialIn K (.builtin "object.__class__") "__get__" = some (some (.builtin "getset_descriptor.__get__"))) (ht : PySem.W.takesIn K (.builtin "object.__class__") = some true)
    (st : PySem.W.findIn K (.ref C) "__str__" = some (some (.builtin "BaseException.__str__"))) (iC : PySem.W.findIn K (.ref C) "__init__" = some (some (.ref fI))) (tI : PySem.W.typeIn K (.ref fI) = some (.type "function")) (kI : PySem.W.keepIn K (.ref fI) = true)
    (lI : K.lookup fI = some ⟨oc1, od1, .func (PySem.W.fnOf "__init__" "BadPaper.__init__" (defArgs i_BadPaper) (defBody i_BadPaper) (defScope i_BadPaper) (.ref T) kV1 dc1 pm1 an1 cd1 ct1), sl1⟩) (cI : PySem.W.codeIn K cd1 "BadPaper.__init__" = true) {tc : Value} {td : Option Addr} {tn : Nat} {ts : Array (Option Value)} (lT : K.lookup T = some ⟨tc, td, .seq #[.none] tn, ts⟩) : PX K mg "BadPaper" "place" "no such paper" 0 true := by
  have eF := adr_is gF
  have eC := adr_is gC
  have hE : ECok K F ⟨"BadPaper", C, "place", 0⟩ := ⟨⟨nm, q, N, bs, sn, sub, ab, col, dd, m0, m1, m2, m3, m5, xL⟩, sa, ga, gg, no, ca, kC, hn, ht⟩
  have hF : FunD K "__init__" "BadPaper.__init__" (defArgs i_BadPaper) (defBody i_BadPaper) (defScope i_BadPaper) [.non] [] fI _ := ⟨⟨oc1, od1, _, kV1, dc1, pm1, an1, cd1, ct1, sl1, rfl, lI, cI, .inr ⟨by simp, T, _, [.none], tn, rfl, lT, rfl, .cons rfl .nil⟩, .inl rfl⟩, kI⟩
  have g := PySem.W.mg_of X G gC
  constructor
  · rw [eF, eC]; exact hE
  · rw [eC]; exact st
  · rw [eC]; exact g
  · intro P w base
    rw [eC]
    exact xm_d hE hF iC tI ⟨rfl, rfl, rfl, by decide +kernel, rfl, by decide +kernel, by decide +kernel⟩ ⟨_, _, _, _, _, _, _, _, _, _, _, rfl, fun env h => ⟨_, by rfl⟩⟩ (.inl ⟨rfl, PySem.W.mg_of X G gF, b1, b2, b3⟩) rfl (by decide) (.inl rfl) (.inl rfl) (by decide) (by decide) (fun _ _ _ _ _ _ _ _ _ _ => ⟨_, rfl, rfl⟩) (fun _ _ _ _ _ _ _ _ _ _ => ⟨_, rfl, rfl⟩) (fun _ _ _ _ _ _ _ _ _ => ⟨_, rfl, rfl⟩) g

abbrev i_BadDeed : Stmt := initS (topS 19)
theorem p_BadDeed {K : PySem.W.Frag} {h : Heap} {mg : Str → Option Value} {F C fI N : Addr} {T : Addr} (X : K.In h) (G : h.Ns mainGlobals mg) (gF : PySem.W.nsIn K mainGlobals "FlatError" = some (some (.ref F))) (b1 : PySem.W.specialIn K (.ref F) "__getattribute__" = some (some (.builtin "type.__getattribute__"))) (b2 : PySem.W.readsIn K F (.type "type") = true) (b3 : PySem.W.findCls K (.ref F) (.type "type") "__init__" = some (.val (.builtin "ValueError.__init__")))
    {nm q : Str} {bs : List Value} {sn : List Str} {sub : List Value} {ab : Bool} {col : Option Bool} {dd : Option Addr} {m0 m1 m2 m3 m5 : Option Value} {od1 an1 : Option Addr} {sl1 : Array (Option Value)} {oc1 kV1 dc1 pm1 cd1 ct1 : Value}
    (gC : PySem.W.nsIn K mainGlobals "BadDeed" = some (some (.ref C))) (xL : K.lookup C = some (excClassObj nm q C N bs (.ref F :: bmT 0) true sn sub ab col dd m0 m1 m2 m3 m5 "ValueError.__new__"))
    (sa : PySem.W.findIn K (.ref C) "__setattr__" = some (some (.builtin "object.__setattr__"))) (ga : PySem.W.findIn K (.ref C) "__getattribute__" = some (some (.builtin "BaseException.__getattribute__"))) (gg : PySem.W.findIn K (.ref C) "__getattr__" = some none) (no : PySem.W.findIn K (.ref C) "place" = some none)
    (ca : PySem.W.findIn K (.ref C) "__class__" = some (some (.builtin "object.__class__"))) (kC : PySem.W.keepIn K (.ref C) = true) (hn : PySem.W.specialIn K (.builtin "object.__class__") "__get__" = some (some (.builtin "getset_descriptor.__get__"))) (ht : PySem.W.takesIn K (.builtin "object.__class__") = some true)
    (st : PySem.W.findIn K (.ref C) "__str__" = some (some (.builtin "BaseException.__str__"))) (iC : PySem.W.findIn K (.ref C) "__init__" = some (some (.ref fI))) (tI : PySem.W.typeIn K (.ref fI) = some (.type "function")) (kI : PySem.W.keepIn K (.ref fI) = true)
    (lI : K.lookup fI = some ⟨oc1, od1, .func (PySem.W.fnOf "__init__" "BadDeed.__init__" (defArgs i_BadDeed) (defBody i_BadDeed) (defScope i_BadDeed) (.ref T) kV1 dc1 pm1 an1 cd1 ct1), sl1⟩) (cI : PySem.W.codeIn K cd1 "BadDeed.__init__" = true) {tc : Value} {td : Option Addr} {tn : Nat} {ts : Array (Option Value)} (lT : K.lookup T = some ⟨tc, td, .seq #[.none] tn, ts⟩) : PX K mg "BadDeed" "place" "no such deed" 0 true := by
  have eF := adr_is gF
  have eC := adr_is gC
  have hE : ECok K F ⟨"BadDeed", C, "place", 0⟩ := ⟨⟨nm, q, N, bs, sn, sub, ab, col, dd, m0, m1, m2, m3, m5, xL⟩, sa, ga, gg, no, ca, kC, hn, ht⟩
  have hF : FunD K "__init__" "BadDeed.__init__" (defArgs i_BadDeed) (defBody i_BadDeed) (defScope i_BadDeed) [.non] [] fI _ := ⟨⟨oc1, od1, _, kV1, dc1, pm1, an1, cd1, ct1, sl1, rfl, lI, cI, .inr ⟨by simp, T, _, [.none], tn, rfl, lT, rfl, .cons rfl .nil⟩, .inl rfl⟩, kI⟩
  have g := PySem.W.mg_of X G gC
  constructor
  · rw [eF, eC]; exact hE
  · rw [eC]; exact st
  · rw [eC]; exact g
  · intro P w base
    rw [eC]
    exact xm_d hE hF iC tI ⟨rfl, rfl, rfl, by decide +kernel, rfl, by decide +kernel, by decide +kernel⟩ ⟨_, _, _, _, _, _, _, _, _, _, _, rfl, fun env h => ⟨_, by rfl⟩⟩ (.inl ⟨rfl, PySem.W.mg_of X G gF, b1, b2, b3⟩) rfl (by decide) (.inl rfl) (.inl rfl) (by decide) (by decide) (fun _ _ _ _ _ _ _ _ _ _ => ⟨_, rfl, rfl⟩) (fun _ _ _ _ _ _ _ _ _ _ => ⟨_, rfl, rfl⟩) (fun _ _ _ _ _ _ _ _ _ => ⟨_, rfl, rfl⟩) g

abbrev i_TooMany : Stmt := initS (topS 20)
theorem p_TooMany {K : PySem.W.Frag} {h : Heap} {mg : Str → Option Value} {F C fI N : Addr} (X : K.In h) (G : h.Ns mainGlobals mg) (gF : PySem.W.nsIn K mainGlobals "FlatError" = some (some (.ref F))) (gB : PySem.W.nsIn K mainGlobals "OverflowError" = some none) (b3 : PySem.W.findCls K (.type "OverflowError") (.type "type") "__init__" = some (.val (.builtin (initE 1))))
    {nm q : Str} {bs : List Value} {sn : List Str} {sub : List Value} {ab : Bool} {col : Option Bool} {dd : Option Addr} {m0 m1 m2 m3 m5 : Option Value} {od1 an1 : Option Addr} {sl1 : Array (Option Value)} {oc1 kV1 dc1 pm1 cd1 ct1 : Value}
    (gC : PySem.W.nsIn K mainGlobals "TooMany" = some (some (.ref C))) (xL : K.lookup C = some (excClassObj nm q C N bs (bmT 1) true sn sub ab col dd m0 m1 m2 m3 m5 "OverflowError.__new__"))
    (sa : PySem.W.findIn K (.ref C) "__setattr__" = some (some (.builtin "object.__setattr__"))) (ga : PySem.W.findIn K (.ref C) "__getattribute__" = some (some (.builtin "BaseException.__getattribute__"))) (gg : PySem.W.findIn K (.ref C) "__getattr__" = some none) (no : PySem.W.findIn K (.ref C) "most" = some none)
    (ca : PySem.W.findIn K (.ref C) "__class__" = some (some (.builtin "object.__class__"))) (kC : PySem.W.keepIn K (.ref C) = true) (hn : PySem.W.specialIn K (.builtin "object.__class__") "__get__" = some (some (.builtin "getset_descriptor.__get__"))) (ht : PySem.W.takesIn K (.builtin "object.__class__") = some true)
    (st : PySem.W.findIn K (.ref C) "__str__" = some (some (.builtin "BaseException.__str__"))) (iC : PySem.W.findIn K (.ref C) "__init__" = some (some (.ref fI))) (tI : PySem.W.typeIn K (.ref fI) = some (.type "function")) (kI : PySem.W.keepIn K (.ref fI) = true)
    (lI : K.lookup fI = some ⟨oc1, od1, .func (PySem.W.fnOf "__init__" "TooMany.__init__" (defArgs i_TooMany) (defBody i_TooMany) (defScope i_TooMany) .none kV1 dc1 pm1 an1 cd1 ct1), sl1⟩) (cI : PySem.W.codeIn K cd1 "TooMany.__init__" = true)  : PX K mg "TooMany" "most" "too many" 1 false := by
  have eF := adr_is gF
  have eC := adr_is gC
  have hE : ECok K F ⟨"TooMany", C, "most", 1⟩ := ⟨⟨nm, q, N, bs, sn, sub, ab, col, dd, m0, m1, m2, m3, m5, xL⟩, sa, ga, gg, no, ca, kC, hn, ht⟩
  have hF : FunD K "__init__" "TooMany.__init__" (defArgs i_TooMany) (defBody i_TooMany) (defScope i_TooMany) [] [] fI _ := ⟨⟨oc1, od1, _, kV1, dc1, pm1, an1, cd1, ct1, sl1, rfl, lI, cI, .inl ⟨rfl, rfl⟩, .inl rfl⟩, kI⟩
  have g := PySem.W.mg_of X G gC
  constructor
  · rw [eF, eC]; exact hE
  · rw [eC]; exact st
  · rw [eC]; exact g
  · intro P w base
    rw [eC]
    exact xm_0 hE hF iC tI ⟨rfl, rfl, rfl, by decide +kernel, rfl, by decide +kernel, by decide +kernel⟩ ⟨_, _, _, _, _, _, _, _, _, _, _, rfl, fun env h => ⟨_, by rfl⟩⟩ (.inr ⟨PySem.W.mg_none_of X G gB, "OverflowError", bt_OverflowError, by decide, by kernel_rfl, by decide +kernel, b3⟩) rfl (by decide) (.inl rfl) (.inl rfl) (by decide) (by decide) (fun _ _ _ _ _ _ _ _ => rfl) (fun _ _ _ _ _ _ _ _ => rfl) g

abbrev i_NoSuch : Stmt := initS (topS 21)
theorem p_NoSuch {K : PySem.W.Frag} {h : Heap} {mg : Str → Option Value} {F C fI N : Addr} {T : Addr} (X : K.In h) (G : h.Ns mainGlobals mg) (gF : PySem.W.nsIn K mainGlobals "FlatError" = some (some (.ref F))) (gB : PySem.W.nsIn K mainGlobals "LookupError" = some none) (b3 : PySem.W.findCls K (.type "LookupError") (.type "type") "__init__" = some (.val (.builtin (initE 2))))
    {nm q : Str} {bs : List Value} {sn : List Str} {sub : List Value} {ab : Bool} {col : Option Bool} {dd : Option Addr} {m0 m1 m2 m3 m5 : Option Value} {od1 an1 : Option Addr} {sl1 : Array (Option Value)} {oc1 kV1 dc1 pm1 cd1 ct1 : Value}
    (gC : PySem.W.nsIn K mainGlobals "NoSuch" = some (some (.ref C))) (xL : K.lookup C = some (excClassObj nm q C N bs (bmT 2) true sn sub ab col dd m0 m1 m2 m3 m5 "LookupError.__new__"))
    (sa : PySem.W.findIn K (.ref C) "__setattr__" = some (some (.builtin "object.__setattr__"))) (ga : PySem.W.findIn K (.ref C) "__getattribute__" = some (some (.builtin "BaseException.__getattribute__"))) (gg : PySem.W.findIn K (.ref C) "__getattr__" = some none) (no : PySem.W.findIn K (.ref C) "value" = some none)
    (ca : PySem.W.findIn K (.ref C) "__class__" = some (some (.builtin "object.__class__"))) (kC : PySem.W.keepIn K (.ref C) = true) (hn : PySem.W.specialIn K (.builtin "object.__class__") "__get__" = some (some (.builtin "getset_descriptor.__get__"))) (ht : PySem.W.takesIn K (.builtin "object.__class__") = some true)
    (st : PySem.W.findIn K (.ref C) "__str__" = some (some (.builtin "BaseException.__str__"))) (iC : PySem.W.findIn K (.ref C) "__init__" = some (some (.ref fI))) (tI : PySem.W.typeIn K (.ref fI) = some (.type "function")) (kI : PySem.W.keepIn K (.ref fI) = true)
    (lI : K.lookup fI = some ⟨oc1, od1, .func (PySem.W.fnOf "__init__" "NoSuch.__init__" (defArgs i_NoSuch) (defBody i_NoSuch) (defScope i_NoSuch) (.ref T) kV1 dc1 pm1 an1 cd1 ct1), sl1⟩) (cI : PySem.W.codeIn K cd1 "NoSuch.__init__" = true) {tc : Value} {td : Option Addr} {tn : Nat} {ts : Array (Option Value)} (lT : K.lookup T = some ⟨tc, td, .seq #[.none] tn, ts⟩) : PX K mg "NoSuch" "value" "nothing so called" 2 true := by
  have eF := adr_is gF
  have eC := adr_is gC
  have hE : ECok K F ⟨"NoSuch", C, "value", 2⟩ := ⟨⟨nm, q, N, bs, sn, sub, ab, col, dd, m0, m1, m2, m3, m5, xL⟩, sa, ga, gg, no, ca, kC, hn, ht⟩
  have hF : FunD K "__init__" "NoSuch.__init__" (defArgs i_NoSuch) (defBody i_NoSuch) (defScope i_NoSuch) [.non] [] fI _ := ⟨⟨oc1, od1, _, kV1, dc1, pm1, an1, cd1, ct1, sl1, rfl, lI, cI, .inr ⟨by simp, T, _, [.none], tn, rfl, lT, rfl, .cons rfl .nil⟩, .inl rfl⟩, kI⟩
  have g := PySem.W.mg_of X G gC
  constructor
  · rw [eF, eC]; exact hE
  · rw [eC]; exact st
  · rw [eC]; exact g
  · intro P w base
    rw [eC]
    exact xm_d hE hF iC tI ⟨rfl, rfl, rfl, by decide +kernel, rfl, by decide +kernel, by decide +kernel⟩ ⟨_, _, _, _, _, _, _, _, _, _, _, rfl, fun env h => ⟨_, by rfl⟩⟩ (.inr ⟨PySem.W.mg_none_of X G gB, "LookupError", bt_LookupError, by decide, by kernel_rfl, by decide +kernel, b3⟩) rfl (by decide) (.inl rfl) (.inl rfl) (by decide) (by decide) (fun _ _ _ _ _ _ _ _ _ _ => ⟨_, rfl, rfl⟩) (fun _ _ _ _ _ _ _ _ _ _ => ⟨_, rfl, rfl⟩) (fun _ _ _ _ _ _ _ _ _ => ⟨_, rfl, rfl⟩) g

def mkA (K : PySem.W.Frag) : Ad := ⟨adr K "FlatError", adr K "BadNumber", adr K "BadPoint", adr K "BadLine", adr K "BadFace", adr K "BadWeb", adr K "BadDrawing", adr K "BadColours", adr K "BadTree", adr K "BadGrid", adr K "BadBody", adr K "BadOrder", adr K "BadPlan", adr K "BadBars", adr K "BadSurface", adr K "BadMap", adr K "BadText", adr K "BadPaper", adr K "BadDeed", adr K "TooMany", adr K "NoSuch", adr K "_law_draw", fdr K "_law_draw", adr K "_law_mixed", fdr K "_law_mixed", adr K "_law_digit", fdr K "_law_digit", adr K "_law_valued", fdr K "_law_valued", adr K "_law_placed", fdr K "_law_placed", adr K "_law_kinds", fdr K "_law_kinds", adr K "_law_right", fdr K "_law_right", adr K "law", fdr K "law"⟩
theorem fdr_is {K : PySem.W.Frag} {x : Str} {a : Addr} {c : Value} {d : Option Addr} {fd : FuncData} {s : Array (Option Value)} (h : PySem.W.nsIn K mainGlobals x = some (some (.ref a))) (l : K.lookup a = some ⟨c, d, .func fd, s⟩) : fdr K x = fd := by
  unfold fdr
  rw [adr_is h, l]

theorem q__law_draw {K : PySem.W.Frag} {h : Heap} {mg : Str → Option Value} {f : Addr} (X : K.In h) (G : h.Ns mainGlobals mg) {od an : Option Addr} {sl : Array (Option Value)} {oc kV dc pm cd ct : Value}
    (a : PySem.W.nsIn K mainGlobals "_law_draw" = some (some (.ref f))) (l : K.lookup f = some ⟨oc, od, .func (PySem.W.fnOf "_law_draw" "_law_draw" (defArgs s__law_draw) (defBody s__law_draw) (defScope s__law_draw) .none kV dc pm an cd ct), sl⟩) (c : PySem.W.codeIn K cd "_law_draw" = true) (k : PySem.W.keepIn K (.ref f) = true) :
    Fun K "_law_draw" "_law_draw" s__law_draw (adr K "_law_draw") (fdr K "_law_draw") ∧ mg "_law_draw" = some (.ref (adr K "_law_draw")) ∧ Binds K (fdr K "_law_draw") ["cell", "k"] [] ∧ PySem.W.keepIn K (.ref (adr K "_law_draw")) = true := by
  rw [fdr_is a l, adr_is a]
  have F1 := fun_mk (st := s__law_draw) l c k
  exact ⟨F1, PySem.W.mg_of X G a, F1.binds (ps := ["cell", "k"]) fun _ _ _ _ _ _ us hl => match us, hl with | [_, _], _ => rfl, k⟩

theorem q__law_mixed {K : PySem.W.Frag} {h : Heap} {mg : Str → Option Value} {f : Addr} (X : K.In h) (G : h.Ns mainGlobals mg) {od an : Option Addr} {sl : Array (Option Value)} {oc kV dc pm cd ct : Value}
    (a : PySem.W.nsIn K mainGlobals "_law_mixed" = some (some (.ref f))) (l : K.lookup f = some ⟨oc, od, .func (PySem.W.fnOf "_law_mixed" "_law_mixed" (defArgs s__law_mixed) (defBody s__law_mixed) (defScope s__law_mixed) .none kV dc pm an cd ct), sl⟩) (c : PySem.W.codeIn K cd "_law_mixed" = true) (k : PySem.W.keepIn K (.ref f) = true) :
    Fun K "_law_mixed" "_law_mixed" s__law_mixed (adr K "_law_mixed") (fdr K "_law_mixed") ∧ mg "_law_mixed" = some (.ref (adr K "_law_mixed")) ∧ Binds K (fdr K "_law_mixed") ["cell", "k"] [] ∧ PySem.W.keepIn K (.ref (adr K "_law_mixed")) = true := by
  rw [fdr_is a l, adr_is a]
  have F1 := fun_mk (st := s__law_mixed) l c k
  exact ⟨F1, PySem.W.mg_of X G a, F1.binds (ps := ["cell", "k"]) fun _ _ _ _ _ _ us hl => match us, hl with | [_, _], _ => rfl, k⟩

theorem q__law_digit {K : PySem.W.Frag} {h : Heap} {mg : Str → Option Value} {f : Addr} (X : K.In h) (G : h.Ns mainGlobals mg) {od an : Option Addr} {sl : Array (Option Value)} {oc kV dc pm cd ct : Value}
    (a : PySem.W.nsIn K mainGlobals "_law_digit" = some (some (.ref f))) (l : K.lookup f = some ⟨oc, od, .func (PySem.W.fnOf "_law_digit" "_law_digit" (defArgs s__law_digit) (defBody s__law_digit) (defScope s__law_digit) .none kV dc pm an cd ct), sl⟩) (c : PySem.W.codeIn K cd "_law_digit" = true) (k : PySem.W.keepIn K (.ref f) = true) :
    Fun K "_law_digit" "_law_digit" s__law_digit (adr K "_law_digit") (fdr K "_law_digit") ∧ mg "_law_digit" = some (.ref (adr K "_law_digit")) ∧ Binds K (fdr K "_law_digit") ["state", "below"] [] ∧ PySem.W.keepIn K (.ref (adr K "_law_digit")) = true := by
  rw [fdr_is a l, adr_is a]
  have F1 := fun_mk (st := s__law_digit) l c k
  exact ⟨F1, PySem.W.mg_of X G a, F1.binds (ps := ["state", "below"]) fun _ _ _ _ _ _ us hl => match us, hl with | [_, _], _ => rfl, k⟩

theorem q__law_valued {K : PySem.W.Frag} {h : Heap} {mg : Str → Option Value} {f : Addr} (X : K.In h) (G : h.Ns mainGlobals mg) {od an : Option Addr} {sl : Array (Option Value)} {oc kV dc pm cd ct : Value}
    (a : PySem.W.nsIn K mainGlobals "_law_valued" = some (some (.ref f))) (l : K.lookup f = some ⟨oc, od, .func (PySem.W.fnOf "_law_valued" "_law_valued" (defArgs s__law_valued) (defBody s__law_valued) (defScope s__law_valued) .none kV dc pm an cd ct), sl⟩) (c : PySem.W.codeIn K cd "_law_valued" = true) (k : PySem.W.keepIn K (.ref f) = true) :
    Fun K "_law_valued" "_law_valued" s__law_valued (adr K "_law_valued") (fdr K "_law_valued") ∧ mg "_law_valued" = some (.ref (adr K "_law_valued")) ∧ Binds K (fdr K "_law_valued") ["thing"] [] ∧ PySem.W.keepIn K (.ref (adr K "_law_valued")) = true := by
  rw [fdr_is a l, adr_is a]
  have F1 := fun_mk (st := s__law_valued) l c k
  exact ⟨F1, PySem.W.mg_of X G a, F1.binds (ps := ["thing"]) fun _ _ _ _ _ _ us hl => match us, hl with | [_], _ => rfl, k⟩

theorem q__law_placed {K : PySem.W.Frag} {h : Heap} {mg : Str → Option Value} {f : Addr} (X : K.In h) (G : h.Ns mainGlobals mg) {od an : Option Addr} {sl : Array (Option Value)} {oc kV dc pm cd ct : Value}
    (a : PySem.W.nsIn K mainGlobals "_law_placed" = some (some (.ref f))) (l : K.lookup f = some ⟨oc, od, .func (PySem.W.fnOf "_law_placed" "_law_placed" (defArgs s__law_placed) (defBody s__law_placed) (defScope s__law_placed) .none kV dc pm an cd ct), sl⟩) (c : PySem.W.codeIn K cd "_law_placed" = true) (k : PySem.W.keepIn K (.ref f) = true) :
    Fun K "_law_placed" "_law_placed" s__law_placed (adr K "_law_placed") (fdr K "_law_placed") ∧ mg "_law_placed" = some (.ref (adr K "_law_placed")) ∧ Binds K (fdr K "_law_placed") ["thing"] [] ∧ PySem.W.keepIn K (.ref (adr K "_law_placed")) = true := by
  rw [fdr_is a l, adr_is a]
  have F1 := fun_mk (st := s__law_placed) l c k
  exact ⟨F1, PySem.W.mg_of X G a, F1.binds (ps := ["thing"]) fun _ _ _ _ _ _ us hl => match us, hl with | [_], _ => rfl, k⟩

theorem q__law_kinds {K : PySem.W.Frag} {h : Heap} {mg : Str → Option Value} {f : Addr} (X : K.In h) (G : h.Ns mainGlobals mg) {od an : Option Addr} {sl : Array (Option Value)} {oc kV dc pm cd ct : Value}
    (a : PySem.W.nsIn K mainGlobals "_law_kinds" = some (some (.ref f))) (l : K.lookup f = some ⟨oc, od, .func (PySem.W.fnOf "_law_kinds" "_law_kinds" (defArgs s__law_kinds) (defBody s__law_kinds) (defScope s__law_kinds) .none kV dc pm an cd ct), sl⟩) (c : PySem.W.codeIn K cd "_law_kinds" = true) (k : PySem.W.keepIn K (.ref f) = true) :
    Fun K "_law_kinds" "_law_kinds" s__law_kinds (adr K "_law_kinds") (fdr K "_law_kinds") ∧ mg "_law_kinds" = some (.ref (adr K "_law_kinds")) ∧ Binds K (fdr K "_law_kinds") ["e"] [] ∧ PySem.W.keepIn K (.ref (adr K "_law_kinds")) = true := by
  rw [fdr_is a l, adr_is a]
  have F1 := fun_mk (st := s__law_kinds) l c k
  exact ⟨F1, PySem.W.mg_of X G a, F1.binds (ps := ["e"]) fun _ _ _ _ _ _ us hl => match us, hl with | [_], _ => rfl, k⟩

theorem q__law_right {K : PySem.W.Frag} {h : Heap} {mg : Str → Option Value} {f : Addr} (X : K.In h) (G : h.Ns mainGlobals mg) {od an : Option Addr} {sl : Array (Option Value)} {oc kV dc pm cd ct : Value}
    (a : PySem.W.nsIn K mainGlobals "_law_right" = some (some (.ref f))) (l : K.lookup f = some ⟨oc, od, .func (PySem.W.fnOf "_law_right" "_law_right" (defArgs s__law_right) (defBody s__law_right) (defScope s__law_right) .none kV dc pm an cd ct), sl⟩) (c : PySem.W.codeIn K cd "_law_right" = true) (k : PySem.W.keepIn K (.ref f) = true) :
    Fun K "_law_right" "_law_right" s__law_right (adr K "_law_right") (fdr K "_law_right") ∧ mg "_law_right" = some (.ref (adr K "_law_right")) ∧ Binds K (fdr K "_law_right") ["thing"] [] ∧ PySem.W.keepIn K (.ref (adr K "_law_right")) = true := by
  rw [fdr_is a l, adr_is a]
  have F1 := fun_mk (st := s__law_right) l c k
  exact ⟨F1, PySem.W.mg_of X G a, F1.binds (ps := ["thing"]) fun _ _ _ _ _ _ us hl => match us, hl with | [_], _ => rfl, k⟩

theorem q_law {K : PySem.W.Frag} {h : Heap} {mg : Str → Option Value} {f : Addr} (X : K.In h) (G : h.Ns mainGlobals mg) {od an : Option Addr} {sl : Array (Option Value)} {oc kV dc pm cd ct : Value}
    (a : PySem.W.nsIn K mainGlobals "law" = some (some (.ref f))) (l : K.lookup f = some ⟨oc, od, .func (PySem.W.fnOf "law" "law" (defArgs s_law) (defBody s_law) (defScope s_law) .none kV dc pm an cd ct), sl⟩) (c : PySem.W.codeIn K cd "law" = true) (k : PySem.W.keepIn K (.ref f) = true) :
    Fun K "law" "law" s_law (adr K "law") (fdr K "law") ∧ mg "law" = some (.ref (adr K "law")) ∧ Binds K (fdr K "law") ["script"] [] ∧ PySem.W.keepIn K (.ref (adr K "law")) = true := by
  rw [fdr_is a l, adr_is a]
  have F1 := fun_mk (st := s_law) l c k
  exact ⟨F1, PySem.W.mg_of X G a, F1.binds (ps := ["script"]) fun _ _ _ _ _ _ us hl => match us, hl with | [_], _ => rfl, k⟩

def clsK (K : PySem.W.Frag) : Cls := cls K (mkA K)
theorem all_mk {l : PySem.W.OpenLaw} {w : World} {K : PySem.W.Frag} {h : Heap} {mg : Str → Option Value} {fa F : Addr} (X : K.In h) (G : h.Ns mainGlobals mg) (hfa : mg "law" = some (.ref fa))
    {nm q : Str} {N : Addr} {bs : List Value} {sn : List Str} {sub : List Value} {ab : Bool} {col : Option Bool} {dd : Option Addr} {m0 m1 m2 m3 m5 : Option Value}
    (aF : PySem.W.nsIn K mainGlobals "FlatError" = some (some (.ref F))) (xF : K.lookup F = some (excClassObj nm q F N bs (bmT 0) true sn sub ab col dd m0 m1 m2 m3 m5 "ValueError.__new__"))
    (x_BadNumber : PX K mg "BadNumber" "value" "no such number" 0 true)
    (x_BadPoint : PX K mg "BadPoint" "value" "no such point" 0 true)
    (x_BadLine : PX K mg "BadLine" "value" "no such line" 0 true)
    (x_BadFace : PX K mg "BadFace" "value" "no such face" 0 true)
    (x_BadWeb : PX K mg "BadWeb" "place" "no such web" 0 true)
    (x_BadDrawing : PX K mg "BadDrawing" "place" "no such drawing" 0 true)
    (x_BadColours : PX K mg "BadColours" "place" "no such colours" 0 true)
    (x_BadTree : PX K mg "BadTree" "place" "no such tree" 0 true)
    (x_BadGrid : PX K mg "BadGrid" "place" "no such grid" 0 true)
    (x_BadBody : PX K mg "BadBody" "place" "no such body" 0 true)
    (x_BadOrder : PX K mg "BadOrder" "place" "no such order" 0 true)
    (x_BadPlan : PX K mg "BadPlan" "place" "no such plan" 0 true)
    (x_BadBars : PX K mg "BadBars" "place" "no such bars" 0 true)
    (x_BadSurface : PX K mg "BadSurface" "place" "no such surface" 0 true)
    (x_BadMap : PX K mg "BadMap" "place" "no such permutation" 0 true)
    (x_BadText : PX K mg "BadText" "place" "no such text" 0 true)
    (x_BadPaper : PX K mg "BadPaper" "place" "no such paper" 0 true)
    (x_BadDeed : PX K mg "BadDeed" "place" "no such deed" 0 true)
    (x_TooMany : PX K mg "TooMany" "most" "too many" 1 false)
    (x_NoSuch : PX K mg "NoSuch" "value" "nothing so called" 2 true)
    (y__law_draw : Fun K "_law_draw" "_law_draw" s__law_draw (adr K "_law_draw") (fdr K "_law_draw") ∧ mg "_law_draw" = some (.ref (adr K "_law_draw")) ∧ Binds K (fdr K "_law_draw") ["cell", "k"] [] ∧ PySem.W.keepIn K (.ref (adr K "_law_draw")) = true)
    (y__law_mixed : Fun K "_law_mixed" "_law_mixed" s__law_mixed (adr K "_law_mixed") (fdr K "_law_mixed") ∧ mg "_law_mixed" = some (.ref (adr K "_law_mixed")) ∧ Binds K (fdr K "_law_mixed") ["cell", "k"] [] ∧ PySem.W.keepIn K (.ref (adr K "_law_mixed")) = true)
    (y__law_digit : Fun K "_law_digit" "_law_digit" s__law_digit (adr K "_law_digit") (fdr K "_law_digit") ∧ mg "_law_digit" = some (.ref (adr K "_law_digit")) ∧ Binds K (fdr K "_law_digit") ["state", "below"] [] ∧ PySem.W.keepIn K (.ref (adr K "_law_digit")) = true)
    (y__law_valued : Fun K "_law_valued" "_law_valued" s__law_valued (adr K "_law_valued") (fdr K "_law_valued") ∧ mg "_law_valued" = some (.ref (adr K "_law_valued")) ∧ Binds K (fdr K "_law_valued") ["thing"] [] ∧ PySem.W.keepIn K (.ref (adr K "_law_valued")) = true)
    (y__law_placed : Fun K "_law_placed" "_law_placed" s__law_placed (adr K "_law_placed") (fdr K "_law_placed") ∧ mg "_law_placed" = some (.ref (adr K "_law_placed")) ∧ Binds K (fdr K "_law_placed") ["thing"] [] ∧ PySem.W.keepIn K (.ref (adr K "_law_placed")) = true)
    (y__law_kinds : Fun K "_law_kinds" "_law_kinds" s__law_kinds (adr K "_law_kinds") (fdr K "_law_kinds") ∧ mg "_law_kinds" = some (.ref (adr K "_law_kinds")) ∧ Binds K (fdr K "_law_kinds") ["e"] [] ∧ PySem.W.keepIn K (.ref (adr K "_law_kinds")) = true)
    (y__law_right : Fun K "_law_right" "_law_right" s__law_right (adr K "_law_right") (fdr K "_law_right") ∧ mg "_law_right" = some (.ref (adr K "_law_right")) ∧ Binds K (fdr K "_law_right") ["thing"] [] ∧ PySem.W.keepIn K (.ref (adr K "_law_right")) = true)
    (y_law : Fun K "law" "law" s_law (adr K "law") (fdr K "law") ∧ mg "law" = some (.ref (adr K "law")) ∧ Binds K (fdr K "law") ["script"] [] ∧ PySem.W.keepIn K (.ref (adr K "law")) = true)
    (z_LookupError : PySem.W.nsIn K mainGlobals "LookupError" = some none)
    (z_OverflowError : PySem.W.nsIn K mainGlobals "OverflowError" = some none)
    (z_ValueError : PySem.W.nsIn K mainGlobals "ValueError" = some none)
    (z_enumerate : PySem.W.nsIn K mainGlobals "enumerate" = some none)
    (z_isinstance : PySem.W.nsIn K mainGlobals "isinstance" = some none)
    (z_range : PySem.W.nsIn K mainGlobals "range" = some none)
    (z_str : PySem.W.nsIn K mainGlobals "str" = some none)
    (z_sum : PySem.W.nsIn K mainGlobals "sum" = some none)
    {C_BadNumber : Addr} (a_BadNumber : PySem.W.nsIn K mainGlobals "BadNumber" = some (some (.ref C_BadNumber))) {C_BadPoint : Addr} (a_BadPoint : PySem.W.nsIn K mainGlobals "BadPoint" = some (some (.ref C_BadPoint))) {C_BadLine : Addr} (a_BadLine : PySem.W.nsIn K mainGlobals "BadLine" = some (some (.ref C_BadLine))) {C_BadFace : Addr} (a_BadFace : PySem.W.nsIn K mainGlobals "BadFace" = some (some (.ref C_BadFace))) {C_BadWeb : Addr} (a_BadWeb : PySem.W.nsIn K mainGlobals "BadWeb" = some (some (.ref C_BadWeb))) {C_BadDrawing : Addr} (a_BadDrawing : PySem.W.nsIn K mainGlobals "BadDrawing" = some (some (.ref C_BadDrawing))) {C_BadColours : Addr} (a_BadColours : PySem.W.nsIn K mainGlobals "BadColours" = some (some (.ref C_BadColours))) {C_BadTree : Addr} (a_BadTree : PySem.W.nsIn K mainGlobals "BadTree" = some (some (.ref C_BadTree))) {C_BadGrid : Addr} (a_BadGrid : PySem.W.nsIn K mainGlobals "BadGrid" = some (some (.ref C_BadGrid))) {C_BadBody : Addr} (a_BadBody : PySem.W.nsIn K mainGlobals "BadBody" = some (some (.ref C_BadBody))) {C_BadOrder : Addr} (a_BadOrder : PySem.W.nsIn K mainGlobals "BadOrder" = some (some (.ref C_BadOrder))) {C_BadPlan : Addr} (a_BadPlan : PySem.W.nsIn K mainGlobals "BadPlan" = some (some (.ref C_BadPlan))) {C_BadBars : Addr} (a_BadBars : PySem.W.nsIn K mainGlobals "BadBars" = some (some (.ref C_BadBars))) {C_BadSurface : Addr} (a_BadSurface : PySem.W.nsIn K mainGlobals "BadSurface" = some (some (.ref C_BadSurface))) {C_BadMap : Addr} (a_BadMap : PySem.W.nsIn K mainGlobals "BadMap" = some (some (.ref C_BadMap))) {C_BadText : Addr} (a_BadText : PySem.W.nsIn K mainGlobals "BadText" = some (some (.ref C_BadText))) {C_BadPaper : Addr} (a_BadPaper : PySem.W.nsIn K mainGlobals "BadPaper" = some (some (.ref C_BadPaper))) {C_BadDeed : Addr} (a_BadDeed : PySem.W.nsIn K mainGlobals "BadDeed" = some (some (.ref C_BadDeed))) {C_TooMany : Addr} (a_TooMany : PySem.W.nsIn K mainGlobals "TooMany" = some (some (.ref C_TooMany))) {C_NoSuch : Addr} (a_NoSuch : PySem.W.nsIn K mainGlobals "NoSuch" = some (some (.ref C_NoSuch)))
    (hd : ([F, C_BadNumber, C_BadPoint, C_BadLine, C_BadFace, C_BadWeb, C_BadDrawing, C_BadColours, C_BadTree, C_BadGrid, C_BadBody, C_BadOrder, C_BadPlan, C_BadBars, C_BadSurface, C_BadMap, C_BadText, C_BadPaper, C_BadDeed, C_TooMany, C_NoSuch] : List Addr).Nodup) :
    ∃ fd : FuncData, (∀ (s : Shared) (v : Value), BindsTo s fd ⟨[v], []⟩ [("script", v)]) ∧ ∀ base : Heap, K.In base → base.Ns mainGlobals mg → FnOk l.prog w K mg base (L2.CX l.prog w) 6 fa fd ["script"] (spF (clsK K) 1 F_law) := by
  have e := hfa.symm.trans y_law.2.1
  cases e
  have eF := adr_is aF
  have gF : mg "FlatError" = some (.ref (adr K "FlatError")) := by rw [eF]; exact PySem.W.mg_of X G aF
  have hE : ECs K (mkA K).F (exL (mkA K)) := by
    refine ⟨fun e he => ?_, ?_, ?_⟩
    · simp only [exL, List.mem_cons, List.not_mem_nil, or_false] at he
      rcases he with h | h | h | h | h | h | h | h | h | h | h | h | h | h | h | h | h | h | h | h <;> subst h
      · exact x_BadNumber.e
      · exact x_BadPoint.e
      · exact x_BadLine.e
      · exact x_BadFace.e
      · exact x_BadWeb.e
      · exact x_BadDrawing.e
      · exact x_BadColours.e
      · exact x_BadTree.e
      · exact x_BadGrid.e
      · exact x_BadBody.e
      · exact x_BadOrder.e
      · exact x_BadPlan.e
      · exact x_BadBars.e
      · exact x_BadSurface.e
      · exact x_BadMap.e
      · exact x_BadText.e
      · exact x_BadPaper.e
      · exact x_BadDeed.e
      · exact x_TooMany.e
      · exact x_NoSuch.e
    · show ClsAt K (adr K "FlatError") _ _
      rw [eF]
      exact ⟨nm, q, N, bs, sn, sub, ab, col, dd, m0, m1, m2, m3, m5, xF⟩
    · show ([adr K "FlatError", adr K "BadNumber", adr K "BadPoint", adr K "BadLine", adr K "BadFace", adr K "BadWeb", adr K "BadDrawing", adr K "BadColours", adr K "BadTree", adr K "BadGrid", adr K "BadBody", adr K "BadOrder", adr K "BadPlan", adr K "BadBars", adr K "BadSurface", adr K "BadMap", adr K "BadText", adr K "BadPaper", adr K "BadDeed", adr K "TooMany", adr K "NoSuch"] : List Addr).Nodup
      rw [eF, adr_is a_BadNumber, adr_is a_BadPoint, adr_is a_BadLine, adr_is a_BadFace, adr_is a_BadWeb, adr_is a_BadDrawing, adr_is a_BadColours, adr_is a_BadTree, adr_is a_BadGrid, adr_is a_BadBody, adr_is a_BadOrder, adr_is a_BadPlan, adr_is a_BadBars, adr_is a_BadSurface, adr_is a_BadMap, adr_is a_BadText, adr_is a_BadPaper, adr_is a_BadDeed, adr_is a_TooMany, adr_is a_NoSuch]
      exact hd
  have hst : ∀ e ∈ exL (mkA K), PySem.W.findIn K (.ref e.a) "__str__" = some (some (.builtin "BaseException.__str__")) := by
    intro e he
    simp only [exL, List.mem_cons, List.not_mem_nil, or_false] at he
    rcases he with h | h | h | h | h | h | h | h | h | h | h | h | h | h | h | h | h | h | h | h <;> subst h
    · exact x_BadNumber.st
    · exact x_BadPoint.st
    · exact x_BadLine.st
    · exact x_BadFace.st
    · exact x_BadWeb.st
    · exact x_BadDrawing.st
    · exact x_BadColours.st
    · exact x_BadTree.st
    · exact x_BadGrid.st
    · exact x_BadBody.st
    · exact x_BadOrder.st
    · exact x_BadPlan.st
    · exact x_BadBars.st
    · exact x_BadSurface.st
    · exact x_BadMap.st
    · exact x_BadText.st
    · exact x_BadPaper.st
    · exact x_BadDeed.st
    · exact x_TooMany.st
    · exact x_NoSuch.st
  have T : ∀ base, Tx l.prog w K mg base (mkA K) := fun base => { E := hE, gF := gF, m_BadNumber := x_BadNumber.m _ _ _, m_BadPoint := x_BadPoint.m _ _ _, m_BadLine := x_BadLine.m _ _ _, m_BadFace := x_BadFace.m _ _ _, m_BadWeb := x_BadWeb.m _ _ _, m_BadDrawing := x_BadDrawing.m _ _ _, m_BadColours := x_BadColours.m _ _ _, m_BadTree := x_BadTree.m _ _ _, m_BadGrid := x_BadGrid.m _ _ _, m_BadBody := x_BadBody.m _ _ _, m_BadOrder := x_BadOrder.m _ _ _, m_BadPlan := x_BadPlan.m _ _ _, m_BadBars := x_BadBars.m _ _ _, m_BadSurface := x_BadSurface.m _ _ _, m_BadMap := x_BadMap.m _ _ _, m_BadText := x_BadText.m _ _ _, m_BadPaper := x_BadPaper.m _ _ _, m_BadDeed := x_BadDeed.m _ _ _, m_TooMany := x_TooMany.m _ _ _, m_NoSuch := x_NoSuch.m _ _ _, q_BadNumber := x_BadNumber.g, q_BadPoint := x_BadPoint.g, q_BadLine := x_BadLine.g, q_BadFace := x_BadFace.g, q_BadWeb := x_BadWeb.g, q_BadDrawing := x_BadDrawing.g, q_BadColours := x_BadColours.g, q_BadTree := x_BadTree.g, q_BadGrid := x_BadGrid.g, q_BadBody := x_BadBody.g, q_BadOrder := x_BadOrder.g, q_BadPlan := x_BadPlan.g, q_BadBars := x_BadBars.g, q_BadSurface := x_BadSurface.g, q_BadMap := x_BadMap.g, q_BadText := x_BadText.g, q_BadPaper := x_BadPaper.g, q_BadDeed := x_BadDeed.g, q_TooMany := x_TooMany.g, q_NoSuch := x_NoSuch.g, st := hst, f__law_draw := y__law_draw.1, f__law_mixed := y__law_mixed.1, f__law_digit := y__law_digit.1, f__law_valued := y__law_valued.1, f__law_placed := y__law_placed.1, f__law_kinds := y__law_kinds.1, f__law_right := y__law_right.1, f_law := y_law.1, g__law_draw := y__law_draw.2.1, b__law_draw := y__law_draw.2.2.1, g__law_mixed := y__law_mixed.2.1, b__law_mixed := y__law_mixed.2.2.1, g__law_digit := y__law_digit.2.1, b__law_digit := y__law_digit.2.2.1, g__law_valued := y__law_valued.2.1, b__law_valued := y__law_valued.2.2.1, g__law_placed := y__law_placed.2.1, b__law_placed := y__law_placed.2.2.1, g__law_kinds := y__law_kinds.2.1, b__law_kinds := y__law_kinds.2.2.1, g__law_right := y__law_right.2.1, b__law_right := y__law_right.2.2.1, g_law := y_law.2.1, b_law := y_law.2.2.1, z_LookupError := PySem.W.mg_none_of X G z_LookupError, z_OverflowError := PySem.W.mg_none_of X G z_OverflowError, z_ValueError := PySem.W.mg_none_of X G z_ValueError, z_enumerate := PySem.W.mg_none_of X G z_enumerate, z_isinstance := PySem.W.mg_none_of X G z_isinstance, z_range := PySem.W.mg_none_of X G z_range, z_str := PySem.W.mg_none_of X G z_str, z_sum := PySem.W.mg_none_of X G z_sum }
  refine ⟨fdr K "law", fun s v => ?_, fun base _ _ => ok_law (T base)⟩
  obtain ⟨_, _, _, _, _, _, _, _, _, efd, _, _⟩ := y_law.1.ex
  rw [efd]
  exact .of_eq rfl

end K99
end

section
set_option Elab.async false
set_option linter.all false
set_option maxRecDepth 100000
open PySem PySem.W PyProof.Rows
set_option maxHeartbeats 0 in
theorem PySem.Challenge.cw_drawnflat_k99_errors_by_hand_holds : PySem.Challenge.rw_drawnflat_k99_errors_by_hand.Holds := by
  w_on; o_law; k_head; (case hw => w_witness2)
  k_fill
  refine L2.walk_of (l := PySem.Challenge.rw_drawnflat_k99_errors_by_hand) (n := 63) (k := 6) (x := "script") (CX := fun w => L2.CX PySem.Challenge.rw_drawnflat_k99_errors_by_hand.prog w) (sp := fun w => FW.spF (K99.clsK _) 1 K99.F_law) rfl (by decide) rfl ⟨rfl, by decide, by decide⟩ (fun w h Y => PySem.W.kIn_of Y) ?F (fun _ _ a ns hl O hS => FW.law_sp (cls := K99.clsK _) (K99.law_ok ns) O hS) (fun w H s e s' c => by obtain ⟨_, _, _, _, _, _, _, _, _, _, _, _, z⟩ := c; exact z)
  case F =>
    intro w mg fa h KX G hmg
    refine' K99.all_mk KX G hmg ?aF ?xF ?x_BadNumber ?x_BadPoint ?x_BadLine ?x_BadFace ?x_BadWeb ?x_BadDrawing ?x_BadColours ?x_BadTree ?x_BadGrid ?x_BadBody ?x_BadOrder ?x_BadPlan ?x_BadBars ?x_BadSurface ?x_BadMap ?x_BadText ?x_BadPaper ?x_BadDeed ?x_TooMany ?x_NoSuch ?y__law_draw ?y__law_mixed ?y__law_digit ?y__law_valued ?y__law_placed ?y__law_kinds ?y__law_right ?y_law ?z_LookupError ?z_OverflowError ?z_ValueError ?z_enumerate ?z_isinstance ?z_range ?z_str ?z_sum ?a_BadNumber ?a_BadPoint ?a_BadLine ?a_BadFace ?a_BadWeb ?a_BadDrawing ?a_BadColours ?a_BadTree ?a_BadGrid ?a_BadBody ?a_BadOrder ?a_BadPlan ?a_BadBars ?a_BadSurface ?a_BadMap ?a_BadText ?a_BadPaper ?a_BadDeed ?a_TooMany ?a_NoSuch ?hd
    case aF => k_is
    case xF => k_is
    case x_BadNumber =>
      refine' K99.p_BadNumber KX G ?gF ?b1 ?b2 ?b3 ?gC ?xL ?sa ?ga ?gg ?no ?ca ?kC ?hn ?ht ?st ?iC ?tI ?kI ?lI ?cI ?lT
      (case gF => k_is)
      (case b1 => k_is)
      (case b2 => k_is)
      (case b3 => k_is)
      (case gC => k_is)
      (case xL => k_is)
      (case sa => k_is)
      (case ga => k_is)
      (case gg => k_is)
      (case no => k_is)
      (case ca => k_is)
      (case kC => k_is)
      (case hn => k_is)
      (case ht => k_is)
      (case st => k_is)
      (case iC => k_is)
      (case tI => k_is)
      (case kI => k_is)
      (case lI => k_is)
      (case cI => k_is)
      (case lT => k_is)
    case x_BadPoint =>
      refine' K99.p_BadPoint KX G ?gF ?b1 ?b2 ?b3 ?gC ?xL ?sa ?ga ?gg ?no ?ca ?kC ?hn ?ht ?st ?iC ?tI ?kI ?lI ?cI ?lT
      (case gF => k_is)
      (case b1 => k_is)
      (case b2 => k_is)
      (case b3 => k_is)
      (case gC => k_is)
      (case xL => k_is)
      (case sa => k_is)
      (case ga => k_is)
      (case gg => k_is)
      (case no => k_is)
      (case ca => k_is)
      (case kC => k_is)
      (case hn => k_is)
      (case ht => k_is)
      (case st => k_is)
      (case iC => k_is)
      (case tI => k_is)
      (case kI => k_is)
      (case lI => k_is)
      (case cI => k_is)
      (case lT => k_is)
    case x_BadLine =>
      refine' K99.p_BadLine KX G ?gF ?b1 ?b2 ?b3 ?gC ?xL ?sa ?ga ?gg ?no ?ca ?kC ?hn ?ht ?st ?iC ?tI ?kI ?lI ?cI ?lT
      (case gF => k_is)
      (case b1 => k_is)
      (case b2 => k_is)
      (case b3 => k_is)
      (case gC => k_is)
      (case xL => k_is)
      (case sa => k_is)
      (case ga => k_is)
      (case gg => k_is)
      (case no => k_is)
      (case ca => k_is)
      (case kC => k_is)
      (case hn => k_is)
      (case ht => k_is)
      (case st => k_is)
      (case iC => k_is)
      (case tI => k_is)
      (case kI => k_is)
      (case lI => k_is)
      (case cI => k_is)
      (case lT => k_is)
    case x_BadFace =>
      refine' K99.p_BadFace KX G ?gF ?b1 ?b2 ?b3 ?gC ?xL ?sa ?ga ?gg ?no ?ca ?kC ?hn ?ht ?st ?iC ?tI ?kI ?lI ?cI ?lT
      (case gF => k_is)
      (case b1 => k_is)
      (case b2 => k_is)
      (case b3 => k_is)
      (case gC => k_is)
      (case xL => k_is)
      (case sa => k_is)
      (case ga => k_is)
      (case gg => k_is)
      (case no => k_is)
      (case ca => k_is)
      (case kC => k_is)
      (case hn => k_is)
      (case ht => k_is)
      (case st => k_is)
      (case iC => k_is)
      (case tI => k_is)
      (case kI => k_is)
      (case lI => k_is)
      (case cI => k_is)
      (case lT => k_is)
    case x_BadWeb =>
      refine' K99.p_BadWeb KX G ?gF ?b1 ?b2 ?b3 ?gC ?xL ?sa ?ga ?gg ?no ?ca ?kC ?hn ?ht ?st ?iC ?tI ?kI ?lI ?cI ?lT
      (case gF => k_is)
      (case b1 => k_is)
      (case b2 => k_is)
      (case b3 => k_is)
      (case gC => k_is)
      (case xL => k_is)
      (case sa => k_is)
      (case ga => k_is)
      (case gg => k_is)
      (case no => k_is)
      (case ca => k_is)
      (case kC => k_is)
      (case hn => k_is)
      (case ht => k_is)
      (case st => k_is)
      (case iC => k_is)
      (case tI => k_is)
      (case kI => k_is)
      (case lI => k_is)
      (case cI => k_is)
      (case lT => k_is)
    case x_BadDrawing =>
      refine' K99.p_BadDrawing KX G ?gF ?b1 ?b2 ?b3 ?gC ?xL ?sa ?ga ?gg ?no ?ca ?kC ?hn ?ht ?st ?iC ?tI ?kI ?lI ?cI ?lT
      (case gF => k_is)
      (case b1 => k_is)
      (case b2 => k_is)
      (case b3 => k_is)
      (case gC => k_is)
      (case xL => k_is)
      (case sa => k_is)
      (case ga => k_is)
      (case gg => k_is)
      (case no => k_is)
      (case ca => k_is)
      (case kC => k_is)
      (case hn => k_is)
      (case ht => k_is)
      (case st => k_is)
      (case iC => k_is)
      (case tI => k_is)
      (case kI => k_is)
      (case lI => k_is)
      (case cI => k_is)
      (case lT => k_is)
    case x_BadColours =>
      refine' K99.p_BadColours KX G ?gF ?b1 ?b2 ?b3 ?gC ?xL ?sa ?ga ?gg ?no ?ca ?kC ?hn ?ht ?st ?iC ?tI ?kI ?lI ?cI ?lT
      (case gF => k_is)
      (case b1 => k_is)
      (case b2 => k_is)
      (case b3 => k_is)
      (case gC => k_is)
      (case xL => k_is)
      (case sa => k_is)
      (case ga => k_is)
      (case gg => k_is)
      (case no => k_is)
      (case ca => k_is)
      (case kC => k_is)
      (case hn => k_is)
      (case ht => k_is)
      (case st => k_is)
      (case iC => k_is)
      (case tI => k_is)
      (case kI => k_is)
      (case lI => k_is)
      (case cI => k_is)
      (case lT => k_is)
    case x_BadTree =>
      refine' K99.p_BadTree KX G ?gF ?b1 ?b2 ?b3 ?gC ?xL ?sa ?ga ?gg ?no ?ca ?kC ?hn ?ht ?st ?iC ?tI ?kI ?lI ?cI ?lT
      (case gF => k_is)
      (case b1 => k_is)
      (case b2 => k_is)
      (case b3 => k_is)
      (case gC => k_is)
      (case xL => k_is)
      (case sa => k_is)
      (case ga => k_is)
      (case gg => k_is)
      (case no => k_is)
      (case ca => k_is)
      (case kC => k_is)
      (case hn => k_is)
      (case ht => k_is)
      (case st => k_is)
      (case iC => k_is)
      (case tI => k_is)
      (case kI => k_is)
      (case lI => k_is)
      (case cI => k_is)
      (case lT => k_is)
    case x_BadGrid =>
      refine' K99.p_BadGrid KX G ?gF ?b1 ?b2 ?b3 ?gC ?xL ?sa ?ga ?gg ?no ?ca ?kC ?hn ?ht ?st ?iC ?tI ?kI ?lI ?cI ?lT
      (case gF => k_is)
      (case b1 => k_is)
      (case b2 => k_is)
      (case b3 => k_is)
      (case gC => k_is)
      (case xL => k_is)
      (case sa => k_is)
      (case ga => k_is)
      (case gg => k_is)
      (case no => k_is)
      (case ca => k_is)
      (case kC => k_is)
      (case hn => k_is)
      (case ht => k_is)
      (case st => k_is)
      (case iC => k_is)
      (case tI => k_is)
      (case kI => k_is)
      (case lI => k_is)
      (case cI => k_is)
      (case lT => k_is)
    case x_BadBody =>
      refine' K99.p_BadBody KX G ?gF ?b1 ?b2 ?b3 ?gC ?xL ?sa ?ga ?gg ?no ?ca ?kC ?hn ?ht ?st ?iC ?tI ?kI ?lI ?cI ?lT
      (case gF => k_is)
      (case b1 => k_is)
      (case b2 => k_is)
      (case b3 => k_is)
      (case gC => k_is)
      (case xL => k_is)
      (case sa => k_is)
      (case ga => k_is)
      (case gg => k_is)
      (case no => k_is)
      (case ca => k_is)
      (case kC => k_is)
      (case hn => k_is)
      (case ht => k_is)
      (case st => k_is)
      (case iC => k_is)
      (case tI => k_is)
      (case kI => k_is)
      (case lI => k_is)
      (case cI => k_is)
      (case lT => k_is)
    case x_BadOrder =>
      refine' K99.p_BadOrder KX G ?gF ?b1 ?b2 ?b3 ?gC ?xL ?sa ?ga ?gg ?no ?ca ?kC ?hn ?ht ?st ?iC ?tI ?kI ?lI ?cI ?lT
      (case gF => k_is)
      (case b1 => k_is)
      (case b2 => k_is)
      (case b3 => k_is)
      (case gC => k_is)
      (case xL => k_is)
      (case sa => k_is)
      (case ga => k_is)
      (case gg => k_is)
      (case no => k_is)
      (case ca => k_is)
      (case kC => k_is)
      (case hn => k_is)
      (case ht => k_is)
      (case st => k_is)
      (case iC => k_is)
      (case tI => k_is)
      (case kI => k_is)
      (case lI => k_is)
      (case cI => k_is)
      (case lT => k_is)
    case x_BadPlan =>
      refine' K99.p_BadPlan KX G ?gF ?b1 ?b2 ?b3 ?gC ?xL ?sa ?ga ?gg ?no ?ca ?kC ?hn ?ht ?st ?iC ?tI ?kI ?lI ?cI ?lT
      (case gF => k_is)
      (case b1 => k_is)
      (case b2 => k_is)
      (case b3 => k_is)
      (case gC => k_is)
      (case xL => k_is)
      (case sa => k_is)
      (case ga => k_is)
      (case gg => k_is)
      (case no => k_is)
      (case ca => k_is)
      (case kC => k_is)
      (case hn => k_is)
      (case ht => k_is)
      (case st => k_is)
      (case iC => k_is)
      (case tI => k_is)
      (case kI => k_is)
      (case lI => k_is)
      (case cI => k_is)
      (case lT => k_is)
    case x_BadBars =>
      refine' K99.p_BadBars KX G ?gF ?b1 ?b2 ?b3 ?gC ?xL ?sa ?ga ?gg ?no ?ca ?kC ?hn ?ht ?st ?iC ?tI ?kI ?lI ?cI ?lT
      (case gF => k_is)
      (case b1 => k_is)
      (case b2 => k_is)
      (case b3 => k_is)
      (case gC => k_is)
      (case xL => k_is)
      (case sa => k_is)
      (case ga => k_is)
      (case gg => k_is)
      (case no => k_is)
      (case ca => k_is)
      (case kC => k_is)
      (case hn => k_is)
      (case ht => k_is)
      (case st => k_is)
      (case iC => k_is)
      (case tI => k_is)
      (case kI => k_is)
      (case lI => k_is)
      (case cI => k_is)
      (case lT => k_is)
    case x_BadSurface =>
      refine' K99.p_BadSurface KX G ?gF ?b1 ?b2 ?b3 ?gC ?xL ?sa ?ga ?gg ?no ?ca ?kC ?hn ?ht ?st ?iC ?tI ?kI ?lI ?cI ?lT
      (case gF => k_is)
      (case b1 => k_is)
      (case b2 => k_is)
      (case b3 => k_is)
      (case gC => k_is)
      (case xL => k_is)
      (case sa => k_is)
      (case ga => k_is)
      (case gg => k_is)
      (case no => k_is)
      (case ca => k_is)
      (case kC => k_is)
      (case hn => k_is)
      (case ht => k_is)
      (case st => k_is)
      (case iC => k_is)
      (case tI => k_is)
      (case kI => k_is)
      (case lI => k_is)
      (case cI => k_is)
      (case lT => k_is)
    case x_BadMap =>
      refine' K99.p_BadMap KX G ?gF ?b1 ?b2 ?b3 ?gC ?xL ?sa ?ga ?gg ?no ?ca ?kC ?hn ?ht ?st ?iC ?tI ?kI ?lI ?cI ?lT
      (case gF => k_is)
      (case b1 => k_is)
      (case b2 => k_is)
      (case b3 => k_is)
      (case gC => k_is)
      (case xL => k_is)
      (case sa => k_is)
      (case ga => k_is)
      (case gg => k_is)
      (case no => k_is)
      (case ca => k_is)
      (case kC => k_is)
      (case hn => k_is)
      (case ht => k_is)
      (case st => k_is)
      (case iC => k_is)
      (case tI => k_is)
      (case kI => k_is)
      (case lI => k_is)
      (case cI => k_is)
      (case lT => k_is)
    case x_BadText =>
      refine' K99.p_BadText KX G ?gF ?b1 ?b2 ?b3 ?gC ?xL ?sa ?ga ?gg ?no ?ca ?kC ?hn ?ht ?st ?iC ?tI ?kI ?lI ?cI ?lT
      (case gF => k_is)
      (case b1 => k_is)
      (case b2 => k_is)
      (case b3 => k_is)
      (case gC => k_is)
      (case xL => k_is)
      (case sa => k_is)
      (case ga => k_is)
      (case gg => k_is)
      (case no => k_is)
      (case ca => k_is)
      (case kC => k_is)
      (case hn => k_is)
      (case ht => k_is)
      (case st => k_is)
      (case iC => k_is)
      (case tI => k_is)
      (case kI => k_is)
      (case lI => k_is)
      (case cI => k_is)
      (case lT => k_is)
    case x_BadPaper =>
      refine' K99.p_BadPaper KX G ?gF ?b1 ?b2 ?b3 ?gC ?xL ?sa ?ga ?gg ?no ?ca ?kC ?hn ?ht ?st ?iC ?tI ?kI ?lI ?cI ?lT
      (case gF => k_is)
      (case b1 => k_is)
      (case b2 => k_is)
      (case b3 => k_is)
      (case gC => k_is)
      (case xL => k_is)
      (case sa => k_is)
      (case ga => k_is)
      (case gg => k_is)
      (case no => k_is)
      (case ca => k_is)
      (case kC => k_is)
      (case hn => k_is)
      (case ht => k_is)
      (case st => k_is)
      (case iC => k_is)
      (case tI => k_is)
      (case kI => k_is)
      (case lI => k_is)
      (case cI => k_is)
      (case lT => k_is)
    case x_BadDeed =>
      refine' K99.p_BadDeed KX G ?gF ?b1 ?b2 ?b3 ?gC ?xL ?sa ?ga ?gg ?no ?ca ?kC ?hn ?ht ?st ?iC ?tI ?kI ?lI ?cI ?lT
      (case gF => k_is)
      (case b1 => k_is)
      (case b2 => k_is)
      (case b3 => k_is)
      (case gC => k_is)
      (case xL => k_is)
      (case sa => k_is)
      (case ga => k_is)
      (case gg => k_is)
      (case no => k_is)
      (case ca => k_is)
      (case kC => k_is)
      (case hn => k_is)
      (case ht => k_is)
      (case st => k_is)
      (case iC => k_is)
      (case tI => k_is)
      (case kI => k_is)
      (case lI => k_is)
      (case cI => k_is)
      (case lT => k_is)
    case x_TooMany =>
      refine' K99.p_TooMany KX G ?gF ?gB ?b3 ?gC ?xL ?sa ?ga ?gg ?no ?ca ?kC ?hn ?ht ?st ?iC ?tI ?kI ?lI ?cI
      (case gF => k_is)
      (case gB => k_is)
      (case b3 => k_is)
      (case gC => k_is)
      (case xL => k_is)
      (case sa => k_is)
      (case ga => k_is)
      (case gg => k_is)
      (case no => k_is)
      (case ca => k_is)
      (case kC => k_is)
      (case hn => k_is)
      (case ht => k_is)
      (case st => k_is)
      (case iC => k_is)
      (case tI => k_is)
      (case kI => k_is)
      (case lI => k_is)
      (case cI => k_is)
    case x_NoSuch =>
      refine' K99.p_NoSuch KX G ?gF ?gB ?b3 ?gC ?xL ?sa ?ga ?gg ?no ?ca ?kC ?hn ?ht ?st ?iC ?tI ?kI ?lI ?cI ?lT
      (case gF => k_is)
      (case gB => k_is)
      (case b3 => k_is)
      (case gC => k_is)
      (case xL => k_is)
      (case sa => k_is)
      (case ga => k_is)
      (case gg => k_is)
      (case no => k_is)
      (case ca => k_is)
      (case kC => k_is)
      (case hn => k_is)
      (case ht => k_is)
      (case st => k_is)
      (case iC => k_is)
      (case tI => k_is)
      (case kI => k_is)
      (case lI => k_is)
      (case cI => k_is)
      (case lT => k_is)
    case y__law_draw =>
      refine' K99.q__law_draw KX G ?a ?l ?c ?k
      (case a => k_is)
      (case l => k_is)
      (case c => k_is)
      (case k => k_is)
    case y__law_mixed =>
      refine' K99.q__law_mixed KX G ?a ?l ?c ?k
      (case a => k_is)
      (case l => k_is)
      (case c => k_is)
      (case k => k_is)
    case y__law_digit =>
      refine' K99.q__law_digit KX G ?a ?l ?c ?k
      (case a => k_is)
      (case l => k_is)
      (case c => k_is)
      (case k => k_is)
    case y__law_valued =>
      refine' K99.q__law_valued KX G ?a ?l ?c ?k
      (case a => k_is)
      (case l => k_is)
      (case c => k_is)
      (case k => k_is)
    case y__law_placed =>
      refine' K99.q__law_placed KX G ?a ?l ?c ?k
      (case a => k_is)
      (case l => k_is)
      (case c => k_is)
      (case k => k_is)
    case y__law_kinds =>
      refine' K99.q__law_kinds KX G ?a ?l ?c ?k
      (case a => k_is)
      (case l => k_is)
      (case c => k_is)
      (case k => k_is)
    case y__law_right =>
      refine' K99.q__law_right KX G ?a ?l ?c ?k
      (case a => k_is)
      (case l => k_is)
      (case c => k_is)
      (case k => k_is)
    case y_law =>
      refine' K99.q_law KX G ?a ?l ?c ?k
      (case a => k_is)
      (case l => k_is)
      (case c => k_is)
      (case k => k_is)
    case z_LookupError => k_is
    case z_OverflowError => k_is
    case z_ValueError => k_is
    case z_enumerate => k_is
    case z_isinstance => k_is
    case z_range => k_is
    case z_str => k_is
    case z_sum => k_is
    case a_BadNumber => k_is
    case a_BadPoint => k_is
    case a_BadLine => k_is
    case a_BadFace => k_is
    case a_BadWeb => k_is
    case a_BadDrawing => k_is
    case a_BadColours => k_is
    case a_BadTree => k_is
    case a_BadGrid => k_is
    case a_BadBody => k_is
    case a_BadOrder => k_is
    case a_BadPlan => k_is
    case a_BadBars => k_is
    case a_BadSurface => k_is
    case a_BadMap => k_is
    case a_BadText => k_is
    case a_BadPaper => k_is
    case a_BadDeed => k_is
    case a_TooMany => k_is
    case a_NoSuch => k_is
    case hd => decide
end
