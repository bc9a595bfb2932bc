import PyProof.Rows.All
import Wide.All
import OpenK.AllK
import Wide.FinOn
import HandS.ForExc
import HandS.Evl
import HandS.Zip
import HandS.IsInst
import HandS.TupMul
import HandS.TupAny
import HandS.Flow
import HandS.Wide
import HandS.TryMany
import HandS.ExcIs
import HandS.CallSlots
import HandS.Dict
import HandS.Comp
import HandS.Iter
import HandS.SetFor
import KE.GoesNew
import KE.KTupSum
import HandS.WordsExc
import HandS.HeadHook1
import PyProof.ExcBaseAll.ValueError
import KE.BitLaws
import PySem.Challenge.RW_eightlots_k41_whole_what_long_rows_break
set_option Elab.async false
set_option linter.all false
set_option maxRecDepth 100000
set_option maxHeartbeats 4000000
/-! A1: data at values, environments of data, what an expression and a statement come to. -/
namespace Lo
open PySem L2 Evl PyProof.Rows

/-! ### data at a value -/
mutual
inductive Da (K : PySem.W.Frag) (H : Hp) : V → PyData → Prop
  | non : Da K H .non .none
  | bl (b : Bool) : Da K H (.bl b) (.bool b)
  | int (i : Int) : Da K H (.int i) (.int i)
  | str (x : Str) : Da K H (.str x) (.str x)
  | lst {a : Addr} {xs : List V} {ds : List PyData} : H a = some (.lst xs) → DaAll K H xs ds → Da K H (.ref a) (.list ds)
  | tup {a : Addr} {xs : List V} {ds : List PyData} : SqT K H a xs → DaAll K H xs ds → Da K H (.ref a) (.tuple ds)
inductive DaAll (K : PySem.W.Frag) (H : Hp) : List V → List PyData → Prop
  | nil : DaAll K H [] []
  | cons {v : V} {vs : List V} {d : PyData} {ds : List PyData} : Da K H v d → DaAll K H vs ds → DaAll K H (v :: vs) (d :: ds)
end

mutual
theorem Da.ex {K : PySem.W.Frag} {H H' : Hp} (e : Ex H H') : ∀ {v : V} {d : PyData}, Da K H v d → Da K H' v d
  | _, _, .non => .non
  | _, _, .bl b => .bl b
  | _, _, .int i => .int i
  | _, _, .str x => .str x
  | _, _, .lst h a => .lst (e _ _ h) (DaAll.ex e a)
  | _, _, .tup h a => .tup (ex_t e h) (DaAll.ex e a)
theorem DaAll.ex {K : PySem.W.Frag} {H H' : Hp} (e : Ex H H') : ∀ {vs : List V} {ds : List PyData}, DaAll K H vs ds → DaAll K H' vs ds
  | _, _, .nil => .nil
  | _, _, .cons h t => .cons (Da.ex e h) (DaAll.ex e t)
end
mutual
theorem Da.dp {K : PySem.W.Frag} {H : Hp} : ∀ {v : V} {d : PyData}, Da K H v d → Dp K H v d
  | _, _, .non => .non
  | _, _, .bl b => .bl b
  | _, _, .int i => .int i
  | _, _, .str x => .str x
  | _, _, .lst h a => .lst (SqL.of h) (DaAll.dp a)
  | _, _, .tup h a => .tup h (DaAll.dp a)
theorem DaAll.dp {K : PySem.W.Frag} {H : Hp} : ∀ {vs : List V} {ds : List PyData}, DaAll K H vs ds → DpAll K H vs ds
  | _, _, .nil => .nil
  | _, _, .cons h t => .cons (Da.dp h) (DaAll.dp t)
end
section
variable {K : PySem.W.Frag} {H H' : Hp} {v : V} {vs : List V} {d : PyData} {ds : List PyData}
theorem DaAll.len : ∀ {vs : List V} {ds : List PyData}, DaAll K H vs ds → vs.length = ds.length
  | _, _, .nil => rfl
  | _, _, .cons _ t => congrArg (· + 1) (DaAll.len t)
theorem DaAll.at : ∀ {vs : List V} {ds : List PyData} {i : Nat} {d : PyData}, DaAll K H vs ds → ds[i]? = some d → ∃ v, vs[i]? = some v ∧ Da K H v d
  | _, _, _, _, .nil, h => by simp at h
  | _, _, 0, _, .cons h _, e => by
    have e' := Option.some.inj e
    subst e'
    exact ⟨_, rfl, h⟩
  | _, _, i + 1, _, .cons _ t, e => by
    obtain ⟨v, h1, h2⟩ := DaAll.at (i := i) t e
    exact ⟨v, h1, h2⟩
theorem DaAll.vat : ∀ {vs : List V} {ds : List PyData} {i : Nat} {v : V}, DaAll K H vs ds → vs[i]? = some v → ∃ d, ds[i]? = some d ∧ Da K H v d
  | _, _, _, _, .nil, h => by simp at h
  | _, _, 0, _, .cons h _, e => by
    have e' := Option.some.inj e
    subst e'
    exact ⟨_, rfl, h⟩
  | _, _, i + 1, _, .cons _ t, e => by
    obtain ⟨v, h1, h2⟩ := DaAll.vat (i := i) t e
    exact ⟨v, h1, h2⟩
theorem DaAll.app : ∀ {vs ws : List V} {ds es : List PyData}, DaAll K H vs ds → DaAll K H ws es → DaAll K H (vs ++ ws) (ds ++ es)
  | _, _, _, _, .nil, s => s
  | _, _, _, _, .cons h t, s => .cons h (DaAll.app t s)
theorem DaAll.take : ∀ {vs : List V} {ds : List PyData} (n : Nat), DaAll K H vs ds → DaAll K H (vs.take n) (ds.take n)
  | _, _, 0, _ => by simpa using DaAll.nil
  | _, _, _ + 1, .nil => by simpa using DaAll.nil
  | _, _, n + 1, .cons h t => by simpa using DaAll.cons h (DaAll.take n t)
theorem DaAll.drop : ∀ {vs : List V} {ds : List PyData} (n : Nat), DaAll K H vs ds → DaAll K H (vs.drop n) (ds.drop n)
  | _, _, 0, h => h
  | _, _, _ + 1, .nil => by simpa using DaAll.nil
  | _, _, n + 1, .cons h t => by simpa using DaAll.drop n t
theorem DaAll.ints : ∀ ns : List Int, DaAll K H (ns.map V.int) (ns.map PyData.int)
  | [] => .nil
  | n :: r => .cons (.int n) (DaAll.ints r)
theorem DaAll.bls : ∀ bs : List Bool, DaAll K H (bs.map V.bl) (bs.map PyData.bool)
  | [] => .nil
  | n :: r => .cons (.bl n) (DaAll.bls r)
theorem DaAll.ints_inv : ∀ {ns : List Int} {vs : List V}, DaAll K H vs (ns.map PyData.int) → vs = ns.map V.int
  | [], _, .nil => rfl
  | n :: r, _, .cons h t => by
    cases h
    rw [DaAll.ints_inv t] <;> rfl
theorem DaAll.bls_inv : ∀ {bs : List Bool} {vs : List V}, DaAll K H vs (bs.map PyData.bool) → vs = bs.map V.bl
  | [], _, .nil => rfl
  | n :: r, _, .cons h t => by
    cases h
    rw [DaAll.bls_inv t] <;> rfl
theorem DaAll.one (h : DaAll K H vs [d]) : ∃ v, vs = [v] ∧ Da K H v d := by
  cases h with
  | cons h t => cases t; exact ⟨_, rfl, h⟩
theorem DaAll.two {d2 : PyData} (h : DaAll K H vs [d, d2]) : ∃ v w, vs = [v, w] ∧ Da K H v d ∧ Da K H w d2 := by
  cases h with
  | cons h t =>
    obtain ⟨w, rfl, h2⟩ := t.one
    exact ⟨_, w, rfl, h, h2⟩
end
/-- a tuple, a list of ints -/
abbrev ti (ns : List Int) : PyData := .tuple (ns.map PyData.int)
abbrev li (ns : List Int) : PyData := .list (ns.map PyData.int)

/-! ### environments -/
abbrev De := List (Option PyData)
def KnS (K : PySem.W.Frag) (σ : L2.St) (H : Hp) (δ : De) : Prop := σ.length = δ.length ∧ ∀ (i : Nat) (d : PyData), δ[i]? = some (some d) → ∃ v, σ[i]? = some (some v) ∧ Da K H v d
section
variable {K : PySem.W.Frag} {σ σ' : L2.St} {H H' H1 : Hp} {δ δ' : De} {v : V} {vs : List V} {d : PyData} {ds : List PyData}
theorem KnS.ex (k : KnS K σ H δ) (e : Ex H H') : KnS K σ H' δ := ⟨k.1, fun i d h => let ⟨v, h1, h2⟩ := k.2 i d h; ⟨v, h1, h2.ex e⟩⟩
theorem KnS.set {i : Nat} (k : KnS K σ H δ) (h : Da K H v d) : KnS K (σ.set i (some v)) H (δ.set i (some d)) := by
  refine ⟨by rw [List.length_set, List.length_set]; exact k.1, fun j d' hj => ?_⟩
  by_cases e : i = j
  · subst e
    rw [List.getElem?_set] at hj
    by_cases hl : i < δ.length
    · rw [if_pos rfl, if_pos hl] at hj
      have e2 := Option.some.inj (Option.some.inj hj)
      subst e2
      refine ⟨v, ?_, h⟩
      rw [List.getElem?_set, if_pos rfl, if_pos (by rw [k.1]; exact hl)]
    · rw [if_pos rfl, if_neg hl] at hj
      cases hj
  · rw [List.getElem?_set_ne e] at hj
    obtain ⟨w, h1, h2⟩ := k.2 j d' hj
    exact ⟨w, by rw [List.getElem?_set_ne e]; exact h1, h2⟩
theorem KnS.setNone {i : Nat} (k : KnS K σ H δ) : KnS K (σ.set i none) H (δ.set i none) := by
  refine ⟨by rw [List.length_set, List.length_set]; exact k.1, fun j d' hj => ?_⟩
  by_cases e : i = j
  · subst e
    rw [List.getElem?_set] at hj
    by_cases hl : i < δ.length
    · rw [if_pos rfl, if_pos hl] at hj
      cases hj
    · rw [if_pos rfl, if_neg hl] at hj
      cases hj
  · rw [List.getElem?_set_ne e] at hj
    obtain ⟨w, h1, h2⟩ := k.2 j d' hj
    exact ⟨w, by rw [List.getElem?_set_ne e]; exact h1, h2⟩
/-- what a slot holds is set to something unknown -/
theorem KnS.setAny {i : Nat} {o : Option V} (k : KnS K σ H δ) : KnS K (σ.set i o) H (δ.set i none) := by
  refine ⟨by rw [List.length_set, List.length_set]; exact k.1, fun j d' hj => ?_⟩
  by_cases e : i = j
  · subst e
    rw [List.getElem?_set] at hj
    by_cases hl : i < δ.length
    · rw [if_pos rfl, if_pos hl] at hj
      cases hj
    · rw [if_pos rfl, if_neg hl] at hj
      cases hj
  · rw [List.getElem?_set_ne e] at hj
    obtain ⟨w, h1, h2⟩ := k.2 j d' hj
    exact ⟨w, by rw [List.getElem?_set_ne e]; exact h1, h2⟩
/-- less is known -/
def Fgt (δ δ' : De) : Prop := δ.length = δ'.length ∧ ∀ (i : Nat) (d : PyData), δ'[i]? = some (some d) → δ[i]? = some (some d)
theorem Fgt.refl (δ : De) : Fgt δ δ := ⟨rfl, fun _ _ h => h⟩
theorem KnS.fgt (k : KnS K σ H δ) (f : Fgt δ δ') : KnS K σ H δ' := ⟨k.1.trans f.1, fun i d h => k.2 i d (f.2 i d h)⟩
/-- a def's start -/
theorem KnS.start {N : List Str} (h : DaAll K H vs ds) : KnS K (L2.start N vs) H (ds.map some ++ List.replicate (N.length - ds.length) none) := by
  have hl := h.len
  refine ⟨?_, fun i d hi => ?_⟩
  · unfold L2.start
    rw [List.length_append, List.length_append, List.length_map, List.length_map, List.length_replicate, List.length_replicate, hl]
  · by_cases hlt : i < ds.length
    · rw [List.getElem?_append_left (by rw [List.length_map]; exact hlt), List.getElem?_map] at hi
      have hi2 : ds[i]? = some d := by
        cases e : ds[i]? with
        | none => rw [e] at hi; cases hi
        | some x => rw [e] at hi; exact Option.some.inj hi
      obtain ⟨v, h1, h2⟩ := h.at hi2
      refine ⟨v, ?_, h2⟩
      unfold L2.start
      rw [List.getElem?_append_left (by rw [List.length_map, hl]; exact hlt), List.getElem?_map, h1] <;> rfl
    · rw [List.getElem?_append_right (by rw [List.length_map]; omega), List.getElem?_replicate] at hi
      split at hi <;> cases hi
def wipeD (δ : De) : List Nat → De
  | [] => δ
  | v :: vs => (wipeD δ vs).set v none
theorem KnS.wipe (k : KnS K σ H δ) : ∀ vs : List Nat, KnS K (wipe σ vs) H (wipeD δ vs)
  | [] => k
  | v :: vs => (KnS.wipe k vs).setNone

/-! ### two heaps: what is known, what stands -/
structure Hd where
  k : Hp
  h : Hp
  ex : Ex k h
/-- B is behind A: both grew, and what A did not know B does not know -/
structure Pr (A B : Hd) : Prop where
  k : Ex A.k B.k
  h : Ex A.h B.h
  fr : ∀ p, A.k p = none → A.h p ≠ none → B.k p = none
theorem Pr.refl (A : Hd) : Pr A A := ⟨Ex.refl _, Ex.refl _, fun _ h _ => h⟩
theorem Pr.trans {A B C : Hd} (a : Pr A B) (b : Pr B C) : Pr A C := by
  refine ⟨a.k.trans b.k, a.h.trans b.h, fun p h1 h2 => b.fr p (a.fr p h1 h2) fun z => ?_⟩
  cases e : A.h p with
  | none => exact h2 e
  | some o =>
    rw [a.h p o e] at z
    cases z
theorem Hd.kn (A : Hd) {p : Addr} (h : A.h p = none) : A.k p = none := fresh_back A.ex h
/-- a new object -/
def Hd.new (A : Hd) (p : Addr) (o : HO) (hp : A.h p = none) : Hd where
  k := upd A.k p o
  h := upd A.h p o
  ex := fun a u e => by
    by_cases z : a = p
    · subst z
      rw [upd_same] at e
      rw [upd_same, e]
    · rw [upd_ne z] at e
      rw [upd_ne z]
      exact A.ex a u e
theorem Hd.pr (A : Hd) {p : Addr} {o : HO} (hp : A.h p = none) : Pr A (A.new p o hp) := by
  refine ⟨Ex.new (A.kn hp), Ex.new hp, fun q h1 h2 => ?_⟩
  have ne : q ≠ p := fun z => by
    subst z
    exact h2 hp
  show upd A.k p o q = none
  rw [upd_ne ne]
  exact h1
theorem Hd.at (A : Hd) {p : Addr} {o : HO} (hp : A.h p = none) : (A.new p o hp).k p = some o := upd_same
/-- what is not known changes -/
def Hd.mut (A : Hd) (p : Addr) (o : HO) (hp : A.k p = none) : Hd where
  k := A.k
  h := upd A.h p o
  ex := Ex.mut A.ex hp
/-! ### what an expression, a test, arguments come to -/
def EvD (K : PySem.W.Frag) (te : TE) (δ : De) (d : PyData) : Prop := ∀ (σ : L2.St) (A : Hd), KnS K σ A.k δ → ∀ Q : VK, (∀ v B, Pr A B → Da K B.k v d → Q v B.h) → te σ A.h Q
def EvB (K : PySem.W.Frag) (tt : TT) (δ : De) (b : Bool) : Prop := ∀ (σ : L2.St) (A : Hd), KnS K σ A.k δ → ∀ Q : Bool → Hp → Prop, (∀ B, Pr A B → Q b B.h) → tt σ A.h Q
def EvDA (K : PySem.W.Frag) (ta : TA) (δ : De) (ds : List PyData) : Prop := ∀ (σ : L2.St) (A : Hd), KnS K σ A.k δ → ∀ Q : List V → Hp → Prop, (∀ vs B, Pr A B → DaAll K B.k vs ds → Q vs B.h) → ta σ A.h Q
/-- a two-place operation, a one-place one, a call, on data -/
def RD (K : PySem.W.Frag) (r : R2) (x y z : PyData) : Prop := ∀ (A : Hd) v w, Da K A.k v x → Da K A.k w y → ∀ Q : VK, (∀ u B, Pr A B → Da K B.k u z → Q u B.h) → r v w A.h Q
def RD1 (K : PySem.W.Frag) (r : V → Hp → VK → Prop) (x z : PyData) : Prop := ∀ (A : Hd) v, Da K A.k v x → ∀ Q : VK, (∀ u B, Pr A B → Da K B.k u z → Q u B.h) → r v A.h Q
def RDC (K : PySem.W.Frag) (r : List V → Hp → VK → Prop) (ds : List PyData) (z : PyData) : Prop := ∀ (A : Hd) vs, DaAll K A.k vs ds → ∀ Q : VK, (∀ u B, Pr A B → Da K B.k u z → Q u B.h) → r vs A.h Q
variable {ta tb te tx : TE} {t u : TT} {x y z : PyData} {r : R2} {b c : Bool}
theorem d_var {i : Nat} (h : δ[i]? = some (some d)) : EvD K (tVar i) δ d := fun σ A k Q q => let ⟨v, h1, h2⟩ := k.2 i d h; ⟨v, h1, q v A (Pr.refl A) h2⟩
theorem d_int {i : Int} : EvD K (tC (.int i)) δ (.int i) := fun _ A _ _ q => q _ A (Pr.refl A) (.int i)
theorem d_bl {i : Bool} : EvD K (tC (.bl i)) δ (.bool i) := fun _ A _ _ q => q _ A (Pr.refl A) (.bl i)
theorem d_str {i : Str} : EvD K (tC (.str i)) δ (.str i) := fun _ A _ _ q => q _ A (Pr.refl A) (.str i)
theorem d_non : EvD K (tC .non) δ .none := fun _ A _ _ q => q _ A (Pr.refl A) .non
theorem d_op (ha : EvD K ta δ x) (hb : EvD K tb δ y) (hr : RD K r x y z) : EvD K (tOp r ta tb) δ z := fun σ A k Q q =>
  ha σ A k _ fun v B e1 h1 => hb σ B (k.ex e1.k) _ fun w C e2 h2 => hr C v w (h1.ex e2.k) h2 Q fun u D e3 h3 => q u D ((e1.trans e2).trans e3) h3
theorem d_un {r : V → Hp → VK → Prop} (ha : EvD K ta δ x) (hr : RD1 K r x z) : EvD K (tUn r ta) δ z := fun σ A k Q q =>
  ha σ A k _ fun v B e1 h1 => hr B v h1 Q fun u C e3 h3 => q u C (e1.trans e3) h3
theorem da_nil : EvDA K tNil δ [] := fun _ A _ _ q => q [] A (Pr.refl A) .nil
theorem da_cons {tr : TA} (h : EvD K ta δ d) (hr : EvDA K tr δ ds) : EvDA K (tCons ta tr) δ (d :: ds) := fun σ A k _ q =>
  h σ A k _ fun v B e1 h1 => hr σ B (k.ex e1.k) _ fun vs C e2 h2 => q (v :: vs) C (e1.trans e2) (.cons (h1.ex e2.k) h2)
theorem d_tup {ta : TA} (h : EvDA K ta δ ds) (hl : ds.length ≤ 100000) : EvD K (tTup ta) δ (.tuple ds) := fun σ A k _ q =>
  h σ A k _ fun vs B e1 h1 => ⟨by rw [h1.len]; exact sz_of hl, fun p hp => q _ (B.new p _ hp) (e1.trans (B.pr hp)) (.tup (st_of (B.at hp)) (h1.ex (B.pr hp).k))⟩
theorem d_lst {ta : TA} (h : EvDA K ta δ ds) (hl : ds.length ≤ 100000) : EvD K (tLst ta) δ (.list ds) := fun σ A k _ q =>
  h σ A k _ fun vs B e1 h1 => ⟨by rw [h1.len]; exact sz_of hl, fun p hp => q _ (B.new p _ hp) (e1.trans (B.pr hp)) (.lst (B.at hp) (h1.ex (B.pr hp).k))⟩
theorem d_cb {ta : TA} {r : List V → Hp → VK → Prop} (h : EvDA K ta δ ds) (hr : RDC K r ds z) : EvD K (tCB r ta) δ z := fun σ A k Q q =>
  h σ A k _ fun vs B e1 h1 => hr B vs h1 Q fun u C e2 h2 => q u C (e1.trans e2) h2
/-- tests -/
theorem b_test (h : EvD K te δ (.bool b)) : EvB K (tTest te) δ b := fun σ A k _ q => h σ A k _ fun v B e1 h1 => by
  cases h1
  exact ⟨b, rfl, q B e1⟩
theorem b_B (h : EvD K te δ (.bool b)) : EvB K (tB te) δ b := fun σ A k _ q => h σ A k _ fun v B e1 h1 => by
  cases h1
  exact ⟨b, rfl, q B e1⟩
theorem b_and (h1 : EvB K t δ b) (h2 : b = true → EvB K u δ c) : EvB K (tAnd t u) δ (b && c) := fun σ A k Q q => h1 σ A k _ fun B e1 => by
  cases b with
  | true =>
    show u σ B.h Q
    exact h2 rfl σ B (k.ex e1.k) Q fun C e2 => q C (e1.trans e2)
  | false =>
    show Q false B.h
    exact q B e1
theorem b_or (h1 : EvB K t δ b) (h2 : b = false → EvB K u δ c) : EvB K (tOr t u) δ (b || c) := fun σ A k Q q => h1 σ A k _ fun B e1 => by
  cases b with
  | true =>
    show Q true B.h
    exact q B e1
  | false =>
    show u σ B.h Q
    exact h2 rfl σ B (k.ex e1.k) Q fun C e2 => q C (e1.trans e2)
theorem b_not (h1 : EvB K t δ b) : EvB K (tNot t) δ (!b) := fun σ A k _ q => h1 σ A k _ fun B e1 => q B e1
theorem d_andV (h1 : EvD K ta δ (.bool b)) (h2 : b = true → EvD K tb δ (.bool c)) : EvD K (tAndV ta tb) δ (.bool (b && c)) := fun σ A k Q q => h1 σ A k _ fun v B e1 hv => by
  cases hv
  refine ⟨b, rfl, ?_⟩
  cases b with
  | true =>
    show tb σ B.h Q
    exact h2 rfl σ B (k.ex e1.k) Q fun w C e2 => q w C (e1.trans e2)
  | false =>
    show Q (.bl false) B.h
    exact q _ B e1 (.bl _)
theorem d_orV (h1 : EvD K ta δ (.bool b)) (h2 : b = false → EvD K tb δ (.bool c)) : EvD K (tOrV ta tb) δ (.bool (b || c)) := fun σ A k Q q => h1 σ A k _ fun v B e1 hv => by
  cases hv
  refine ⟨b, rfl, ?_⟩
  cases b with
  | true =>
    show Q (.bl true) B.h
    exact q _ B e1 (.bl _)
  | false =>
    show tb σ B.h Q
    exact h2 rfl σ B (k.ex e1.k) Q fun w C e2 => q w C (e1.trans e2)
theorem d_notV (h1 : EvD K ta δ (.bool b)) : EvD K (tNotV ta) δ (.bool (!b)) := fun σ A k Q q => h1 σ A k _ fun v B e1 hv => by
  cases hv
  exact ⟨b, rfl, q _ B e1 (.bl _)⟩
theorem d_if (h : EvB K t δ b) (h1 : b = true → EvD K ta δ d) (h2 : b = false → EvD K tb δ d) : EvD K (tIf t ta tb) δ d := fun σ A k Q q => h σ A k _ fun B e1 => by
  cases b with
  | true =>
    show ta σ B.h Q
    exact h1 rfl σ B (k.ex e1.k) Q fun w C e2 => q w C (e1.trans e2)
  | false =>
    show tb σ B.h Q
    exact h2 rfl σ B (k.ex e1.k) Q fun w C e2 => q w C (e1.trans e2)
theorem EvD.to (h : EvD K te δ d) (e : d = z) : EvD K te δ z := e ▸ h
theorem EvB.to (h : EvB K t δ b) (e : b = c) : EvB K t δ c := e ▸ h
end
end Lo
/-! A2: operations on data, calls, slices, statements. -/
namespace Lo
open PySem L2 Evl PyProof.Rows

section
variable {K : PySem.W.Frag} {σ σ' : L2.St} {H H' H1 : Hp} {A B : Hd} {δ δ' : De} {v : V} {vs : List V} {d x y z : PyData} {ds es : List PyData} {ta tb te : TE} {i j : Int} {b : Bool}
theorem Da.dpH (h : Da K A.k v d) : Dp K A.h v d := (h.ex A.ex).dp
theorem rd_int {f : Int → Int → Int} : RD K (rI0 fun i j => .int (f i j)) (.int i) (.int j) (.int (f i j)) := fun A v w hv hw Q q => by
  cases hv
  cases hw
  exact ⟨i, j, rfl, rfl, q _ A (Pr.refl A) (.int _)⟩
theorem rd_cmp {f : Int → Int → Bool} : RD K (rI0 fun i j => .bl (f i j)) (.int i) (.int j) (.bool (f i j)) := fun A v w hv hw Q q => by
  cases hv
  cases hw
  exact ⟨i, j, rfl, rfl, q _ A (Pr.refl A) (.bl _)⟩
theorem rd_intC {C : Int → Int → Prop} {f : Int → Int → Int} (hc : C i j) : RD K (rI C fun i j => .int (f i j)) (.int i) (.int j) (.int (f i j)) := fun A v w hv hw Q q => by
  cases hv
  cases hw
  exact ⟨i, j, rfl, rfl, hc, q _ A (Pr.refl A) (.int _)⟩
theorem rd_eq (hx : SeqAt.shaped x = true) (hy : SeqAt.shaped y = true) : RD K (rEqD K) x y (.bool (PyData.eqv x y)) := fun A v w hv hw Q q =>
  ⟨x, y, hv.dpH, hw.dpH, hx, hy, q _ A (Pr.refl A) (.bl _)⟩
theorem rd_ne (hx : SeqAt.shaped x = true) (hy : SeqAt.shaped y = true) : RD K (rNeD K) x y (.bool (!PyData.eqv x y)) := fun A v w hv hw Q q =>
  ⟨x, y, hv.dpH, hw.dpH, hx, hy, q _ A (Pr.refl A) (.bl _)⟩
theorem atI_map {H : Hp} {xs : List V} {ds : List PyData} (h : DaAll K H xs ds) (e : atI ds i = some d) : ∃ v, atI xs i = some v ∧ Da K H v d := by
  unfold atI at e ⊢
  rw [h.len]
  cases hj : ixN ds.length i with
  | none => rw [hj] at e; cases e
  | some j =>
    rw [hj] at e
    exact h.at e
theorem rd_ixT (e : atI ds i = some d) : RD K (rIxT K) (.tuple ds) (.int i) d := fun A v w hv hw Q q => by
  cases hw
  cases hv with
  | tup hs ha =>
    obtain ⟨u, h1, h2⟩ := atI_map ha e
    exact ⟨_, _, i, u, rfl, rfl, ex_t A.ex hs, h1, q _ A (Pr.refl A) h2⟩
theorem rd_ixL (e : atI ds i = some d) : RD K (rIxL K) (.list ds) (.int i) d := fun A v w hv hw Q q => by
  cases hw
  cases hv with
  | lst hs ha =>
    obtain ⟨u, h1, h2⟩ := atI_map ha e
    exact ⟨_, _, i, u, rfl, rfl, SqL.of (A.ex _ _ hs), h1, q _ A (Pr.refl A) h2⟩
def isN : PyData → Bool
  | .none => true
  | _ => false
theorem isN_of (h : Da K H v d) : decide (v = .non) = isN d := by
  cases h <;> rfl
theorem rd_isN : RD K (fun x y H Q => y = .non ∧ Q (.bl (decide (x = .non))) H) d .none (.bool (isN d)) := fun A v w hv hw Q q => by
  cases hw
  exact ⟨rfl, q _ A (Pr.refl A) (by rw [isN_of hv]; exact .bl _)⟩
theorem rd_notN : RD K (fun x y H Q => y = .non ∧ Q (.bl (!decide (x = .non))) H) d .none (.bool (!isN d)) := fun A v w hv hw Q q => by
  cases hw
  exact ⟨rfl, q _ A (Pr.refl A) (by rw [isN_of hv]; exact .bl _)⟩
theorem rd_catL (hl : ds.length + es.length ≤ 100000) : RD K rCat (.list ds) (.list es) (.list (ds ++ es)) := fun A v w hv hw Q q => by
  cases hv with
  | lst hs ha =>
    cases hw with
    | lst hs2 ha2 =>
      exact ⟨_, _, _, _, rfl, rfl, A.ex _ _ hs, A.ex _ _ hs2, by rw [ha.len, ha2.len]; exact sz_of hl, fun p hp => q _ (A.new p _ hp) (A.pr hp) (.lst (A.at hp) ((ha.app ha2).ex (A.pr hp).k))⟩
theorem rd_catT (hl : ds.length + es.length ≤ 100000) : RD K (rCatA K) (.tuple ds) (.tuple es) (.tuple (ds ++ es)) := fun A v w hv hw Q q => by
  cases hv with
  | tup hs ha =>
    cases hw with
    | tup hs2 ha2 =>
      refine ⟨_, _, _, _, rfl, rfl, ex_t A.ex hs, ex_t A.ex hs2, by rw [ha.len, ha2.len]; exact sz_of hl, fun e => ?_, fun _ e => ?_, fun _ _ p hp => ?_⟩
      · subst e
        cases ha
        exact q _ A (Pr.refl A) (.tup hs2 ha2)
      · subst e
        cases ha2
        rw [List.append_nil] at q
        exact q _ A (Pr.refl A) (.tup hs ha)
      · exact q _ (A.new p _ hp) (A.pr hp) (.tup (st_of (A.at hp)) ((ha.app ha2).ex (A.pr hp).k))
theorem DaAll.rep (h : DaAll K H vs ds) : ∀ n : Nat, DaAll K H (List.replicate n vs).flatten (List.replicate n ds).flatten
  | 0 => .nil
  | n + 1 => by
    rw [List.replicate_succ, List.replicate_succ, List.flatten_cons, List.flatten_cons]
    exact h.app (DaAll.rep h n)
theorem rd_repL {n : Nat} (hn : n ≤ 1000) (hl : ds.length ≤ 100) : RD K rRep (.list ds) (.int (n : Int)) (.list (List.replicate n ds).flatten) := fun A v w hv hw Q q => by
  cases hw
  cases hv with
  | lst hs ha =>
    refine ⟨_, _, _, rfl, rfl, A.ex _ _ hs, by omega, by omega, ?_, fun p hp => ?_⟩
    · rw [ha.len, Int.toNat_natCast]
      refine sz_of (Nat.le_trans (Nat.mul_le_mul hl hn) (by decide))
    · rw [Int.toNat_natCast]
      exact q _ (A.new p _ hp) (A.pr hp) (.lst (A.at hp) ((ha.rep n).ex (A.pr hp).k))
theorem rd_repT {n : Nat} (hn : n ≤ 1000) (h2 : 2 ≤ n) (hl : ds.length ≤ 100) (h0 : ds ≠ []) : RD K (rRepT K) (.tuple ds) (.int (n : Int)) (.tuple (List.replicate n ds).flatten) := fun A v w hv hw Q q => by
  cases hw
  cases hv with
  | tup hs ha =>
    refine ⟨_, _, _, rfl, rfl, ex_t A.ex hs, fun z => ?_, by omega, by omega, by rw [ha.len]; omega, fun p hp => ?_⟩
    · subst z
      cases ha
      exact h0 rfl
    · rw [Int.toNat_natCast]
      exact q _ (A.new p _ hp) (A.pr hp) (.tup (st_of (A.at hp)) ((ha.rep n).ex (A.pr hp).k))
theorem inV_ints (i : Int) : ∀ ns : List Int, inV (.int i) (ns.map V.int) = decide (i ∈ ns)
  | [] => by simp [inV]
  | n :: r => by
    have ih := inV_ints i r
    unfold inV at ih ⊢
    rw [List.map_cons, List.any_cons, ih]
    show ((n == i) || decide (i ∈ r)) = decide (i ∈ n :: r)
    rw [Bool.eq_iff_iff]
    simp only [Bool.or_eq_true, beq_iff_eq, decide_eq_true_eq, List.mem_cons]
    exact ⟨fun h => h.elim (fun e => .inl e.symm) .inr, fun h => h.elim (fun e => .inl e.symm) .inr⟩
theorem flat_ints : ∀ ns : List Int, (ns.map V.int).all flatV = true
  | [] => rfl
  | n :: r => by rw [List.map_cons, List.all_cons, flat_ints r] <;> rfl
theorem rd_inT {ns : List Int} : RD K (rIn K false) (.int i) (ti ns) (.bool (decide (i ∈ ns))) := fun A v w hv hw Q q => by
  cases hv
  cases hw with
  | tup hs ha =>
    have e := ha.ints_inv
    subst e
    refine ⟨_, _, rfl, .inr (ex_t A.ex hs), rfl, flat_ints ns, ?_⟩
    rw [if_neg Bool.false_ne_true, inV_ints]
    exact q _ A (Pr.refl A) (.bl _)

/-! ### one place -/
theorem r1_neg : RD1 K (rU fun i => .int (-i)) (.int i) (.int (-i)) := fun A v hv Q q => by
  cases hv
  exact ⟨i, rfl, q _ A (Pr.refl A) (.int _)⟩

/-! ### calls of built-ins -/
theorem rc_len : RDC K (fun xs H Q => ∃ p ys, xs = [.ref p] ∧ (SqL K H p ys ∨ SqT K H p ys) ∧ Q (.int ys.length) H) [.tuple ds] (.int (ds.length : Nat)) := fun A vs h Q q => by
  obtain ⟨v, rfl, hv⟩ := h.one
  cases hv with
  | tup hs ha => exact ⟨_, _, rfl, .inr (ex_t A.ex hs), by rw [ha.len]; exact q _ A (Pr.refl A) (.int _)⟩
theorem rc_lenL : RDC K (fun xs H Q => ∃ p ys, xs = [.ref p] ∧ (SqL K H p ys ∨ SqT K H p ys) ∧ Q (.int ys.length) H) [.list ds] (.int (ds.length : Nat)) := fun A vs h Q q => by
  obtain ⟨v, rfl, hv⟩ := h.one
  cases hv with
  | lst hs ha => exact ⟨_, _, rfl, .inl (SqL.of (A.ex _ _ hs)), by rw [ha.len]; exact q _ A (Pr.refl A) (.int _)⟩
theorem rc_tupL : RDC K (fun xs H Q => ∃ p ys, xs = [.ref p] ∧ ((SqL K H p ys ∧ ∀ l, H l = none → Q (.ref l) (upd H l (.tup ys))) ∨ (SqT K H p ys ∧ Q (.ref p) H))) [.list ds] (.tuple ds) := fun A vs h Q q => by
  obtain ⟨v, rfl, hv⟩ := h.one
  cases hv with
  | lst hs ha => exact ⟨_, _, rfl, .inl ⟨SqL.of (A.ex _ _ hs), fun l hl => q _ (A.new l _ hl) (A.pr hl) (.tup (st_of (A.at hl)) (ha.ex (A.pr hl).k))⟩⟩
theorem rc_listT : RDC K (fun xs H Q => ∃ p ys, xs = [.ref p] ∧ (SqL K H p ys ∨ SqT K H p ys) ∧ ∀ l, H l = none → Q (.ref l) (upd H l (.lst ys))) [.tuple ds] (.list ds) := fun A vs h Q q => by
  obtain ⟨v, rfl, hv⟩ := h.one
  cases hv with
  | tup hs ha => exact ⟨_, _, rfl, .inr (ex_t A.ex hs), fun l hl => q _ (A.new l _ hl) (A.pr hl) (.lst (A.at hl) (ha.ex (A.pr hl).k))⟩
theorem rc_sum {ns : List Int} : RDC K (rSum K) [li ns] (.int ns.sum) := fun A vs h Q q => by
  obtain ⟨v, rfl, hv⟩ := h.one
  cases hv with
  | lst hs ha =>
    have e := ha.ints_inv
    subst e
    exact ⟨_, ns, rfl, SqL.of (A.ex _ _ hs), q _ A (Pr.refl A) (.int _)⟩
theorem rc_all {bs : List Bool} : RDC K (rAll K) [.list (bs.map PyData.bool)] (.bool (bs.all id)) := fun A vs h Q q => by
  obtain ⟨v, rfl, hv⟩ := h.one
  cases hv with
  | lst hs ha =>
    have e := ha.bls_inv
    subst e
    exact ⟨_, bs, rfl, SqL.of (A.ex _ _ hs), q _ A (Pr.refl A) (.bl _)⟩
theorem rc_max {ns : List Int} {m : Int} (hm : m ∈ ns) (hle : ∀ y ∈ ns, y ≤ m) : RDC K (rMax K) [li ns] (.int m) := fun A vs h Q q => by
  obtain ⟨v, rfl, hv⟩ := h.one
  cases hv with
  | lst hs ha =>
    have e := ha.ints_inv
    subst e
    refine ⟨_, ns, rfl, SqL.of (A.ex _ _ hs), List.length_pos_of_mem hm, fun m' h1 h2 => ?_⟩
    have e : m' = m := Int.le_antisymm (hle m' h1) (h2 m hm)
    subst e
    exact q _ A (Pr.refl A) (.int _)
theorem rc_abs : RDC K (fun xs H Q => ∃ i, xs = [.int i] ∧ Q (.int (if i < 0 then -i else i)) H) [.int i] (.int (if i < 0 then -i else i)) := fun A vs h Q q => by
  obtain ⟨v, rfl, hv⟩ := h.one
  cases hv
  exact ⟨i, rfl, q _ A (Pr.refl A) (.int _)⟩
theorem rc_int : RDC K (fun xs H Q => (∃ i, xs = [.int i] ∧ Q (.int i) H) ∨ ∃ k, xs = [.bl k] ∧ Q (.int (if k then 1 else 0)) H) [.int i] (.int i) := fun A vs h Q q => by
  obtain ⟨v, rfl, hv⟩ := h.one
  cases hv
  exact .inl ⟨i, rfl, q _ A (Pr.refl A) (.int _)⟩
theorem rc_intB : RDC K (fun xs H Q => (∃ i, xs = [.int i] ∧ Q (.int i) H) ∨ ∃ k, xs = [.bl k] ∧ Q (.int (if k then 1 else 0)) H) [.bool b] (.int (if b then 1 else 0)) := fun A vs h Q q => by
  obtain ⟨v, rfl, hv⟩ := h.one
  cases hv
  exact .inr ⟨b, rfl, q _ A (Pr.refl A) (.int _)⟩

/-! ### isinstance -/
def tyD : PyData → String
  | .none => "NoneType"
  | .bool _ => "bool"
  | .int _ => "int"
  | .str _ => "str"
  | .list _ => "list"
  | .tuple _ => "tuple"
  | .dict _ => "dict"
theorem tyX_of (h : Da K H v d) : TyX K H v (.type (tyD d)) := by
  cases h with
  | non => exact .base .non
  | bl b => exact .base (.bl b)
  | int i => exact .base (.int i)
  | str x => exact .base (.str x)
  | lst hs ha => exact .base (.lst hs)
  | tup hs ha =>
    rcases hs with (hs | ⟨o, hs⟩) | ⟨o, its, n, h1, h2, _⟩
    · exact .base (.tup hs)
    · exact .fTuple hs
    · exact .kTuple h1 h2
theorem d_isi {T : String} (h : EvD K ta δ d) (hk : kitB (tyD d) T = some b) : EvD K (tCB (rIsi K) (tCons ta (tCons (tC (.ty T)) tNil))) δ (.bool b) := fun σ A k Q q =>
  h σ A k _ fun v B e1 h1 => ⟨v, .ty T, _, _, b, rfl, .ty T, tyX_of (h1.ex B.ex), kit_ty hk, q _ B e1 (.bl _)⟩
theorem d_isiT {T U : String} {b1 b2 : Bool} (h : EvD K ta δ d) (h1 : kitB (tyD d) T = some b1) (h2 : kitB (tyD d) U = some b2) :
    EvD K (tCB (rIsiT K) (tCons ta (tCons (tTup (tCons (tC (.ty T)) (tCons (tC (.ty U)) tNil))) tNil))) δ (.bool (b1 || b2)) := fun σ A k Q q =>
  h σ A k _ fun v B e1 hv => ⟨by show 2 ≤ sizeLine; decide, fun p hp => by
    refine ⟨v, p, [.ty T, .ty U], _, [.type T, .type U], b1 || b2, rfl, upd_same, .cons (.ty T) (.cons (.ty U) .nil), tyX_of ((hv.ex B.ex).ex (Ex.new hp)), ?_, q _ (B.new p _ hp) (e1.trans (B.pr hp)) (.bl _)⟩
    refine kitAny_cons (kit_ty h1) (fun z => ?_) (fun z => by rw [z]; rfl)
    subst z
    exact kitAny_cons (kit_ty h2) (fun z => by rw [z]; exact kitAny_nil) (fun z => by rw [z]; rfl)⟩

/-! ### slices of tuples -/
def EvO (K : PySem.W.Frag) (to : TO) (δ : De) (o : Option Int) : Prop := ∀ (σ : L2.St) (A : Hd), KnS K σ A.k δ → ∀ Q : Option Int → Hp → Prop, (∀ B, Pr A B → Q o B.h) → to σ A.h Q
theorem o_none : EvO K tNoPart δ none := fun _ A _ _ q => q A (Pr.refl A)
theorem o_some (h : EvD K te δ (.int i)) : EvO K (tPart te) δ (some i) := fun σ A k _ q => h σ A k _ fun v B e1 h1 => by
  cases h1
  exact ⟨i, rfl, q B e1⟩
def cutD (ds : List PyData) (lo hi : Option Int) : List PyData := (ds.drop (HT.sIx ds.length 0 lo)).take (HT.sIx ds.length ds.length hi - HT.sIx ds.length 0 lo)
theorem d_slice {tl th : TO} {lo hi : Option Int} (h : EvD K te δ (.tuple ds)) (hl : EvO K tl δ lo) (hu : EvO K th δ hi) : EvD K (tSl (rSlA K) te tl th) δ (.tuple (cutD ds lo hi)) := fun σ A k Q q =>
  h σ A k _ fun v B e1 hv => hl σ B (k.ex e1.k) _ fun C e2 => hu σ C ((k.ex e1.k).ex e2.k) _ fun D e3 => by
    cases hv.ex (e2.trans e3).k with
    | tup hs ha =>
      refine ⟨_, _, rfl, ex_t D.ex hs, fun e => ?_, fun _ p hp => ?_⟩
      · rw [ha.len] at e
        refine q _ D ((e1.trans e2).trans e3) ?_
        have e2 : cutD ds lo hi = ds := by
          unfold cutD
          rw [e.1, e.2]
          simp
        rw [e2]
        exact .tup hs ha
      · refine q _ (D.new p _ hp) (((e1.trans e2).trans e3).trans (D.pr hp)) (.tup (st_of (D.at hp)) ?_)
        refine DaAll.ex (D.pr hp).k ?_
        unfold cutV cutD
        rw [ha.len]
        exact (ha.drop _).take _

/-! ### a pure promise, its call -/
def spD (K : PySem.W.Frag) (R : List PyData → PyData → Prop) : Sp := fun vs H Q _ => ∃ (A : Hd) (ds : List PyData) (d : PyData), A.h = H ∧ DaAll K A.k vs ds ∧ R ds d ∧ ∀ v B, Pr A B → Da K B.k v d → Q v B.h
theorem d_call {R : List PyData → PyData → Prop} {t : TA} (h : EvDA K t δ ds) (hr : R ds d) : EvD K (tCall (spD K R) [] E0 t) δ d := fun σ A k Q q =>
  h σ A k _ fun vs B e1 h1 => ⟨B, ds, d, rfl, by rw [List.append_nil]; exact h1, hr, fun v C e2 h2 => q v C (e1.trans e2) h2⟩

/-! ### statements -/
inductive Oc
  | next (δ : De)
  | ret (d : PyData)
def Oc.ok (K : PySem.W.Frag) (A : Hd) (D : Ends) : Oc → Prop
  | .next δ' => ∀ σ' B, Pr A B → KnS K σ' B.k δ' → D.nx σ' B.h
  | .ret d => ∀ v B, Pr A B → Da K B.k v d → D.rt v B.h
def StD (K : PySem.W.Frag) (ts : TS) (δ : De) (o : Oc) : Prop := ∀ (σ : L2.St) (A : Hd), KnS K σ A.k δ → ∀ D : Ends, o.ok K A D → ts D σ A.h
variable {t u w : TS} {o o' : Oc} {tt : TT}
theorem Oc.ok.pr {D : Ends} (h : Oc.ok K A D o) (e : Pr A B) : Oc.ok K B D o := by
  cases o with
  | next δ' => exact fun σ' C e2 k => h σ' C (e.trans e2) k
  | ret d => exact fun v C e2 k => h v C (e.trans e2) k
theorem s_ret (h : EvD K te δ d) : StD K (tRet te) δ (.ret d) := fun σ A k D q => h σ A k _ q
theorem s_seq (h1 : StD K t δ (.next δ')) (h2 : StD K u δ' o) : StD K (tSeq t u) δ o := fun σ A k D q =>
  h1 σ A k { D with nx := u D } fun σ' B e k' => h2 σ' B k' D (q.pr e)
/-- the first one hands back -/
theorem s_seqR (h1 : StD K t δ (.ret d)) : StD K (tSeq t u) δ (.ret d) := fun σ A k D q => h1 σ A k { D with nx := u D } q
theorem s_set {n : Nat} (h : EvD K te δ d) : StD K (tAsg te (gName n)) δ (.next (δ.set n (some d))) := fun σ A k D q =>
  h σ A k _ fun v B e1 h1 => q _ B e1 ((k.ex e1.k).set h1)
theorem s_next : StD K tNext δ (.next δ) := fun σ A k D q => q σ A (Pr.refl A) k
theorem s_ifT (h : EvB K tt δ true) (h1 : StD K t δ o) : StD K (tIfS tt t u) δ o := fun σ A k D q => h σ A k _ fun B e1 => iteT (h1 σ B (k.ex e1.k) D (q.pr e1))
theorem s_ifF (h : EvB K tt δ false) (h1 : StD K u δ o) : StD K (tIfS tt t u) δ o := fun σ A k D q => h σ A k _ fun B e1 => iteF (h1 σ B (k.ex e1.k) D (q.pr e1))
theorem s_fgt {δ'' : De} (h : StD K t δ (.next δ')) (f : Fgt δ' δ'') : StD K t δ (.next δ'') := fun σ A k D q => h σ A k D fun σ' B e k' => q σ' B e (k'.fgt f)
/-- name, name = value, value -/
theorem s_par {a c : Nat} {ta : TA} (h : EvDA K ta δ [x, y]) : StD K (tPar a c ta) δ (.next ((δ.set a (some x)).set c (some y))) := fun σ A k D q =>
  h σ A k _ fun vs B e1 h1 => by
    obtain ⟨v, w, rfl, hv, hw⟩ := h1.two
    exact ⟨v, w, rfl, q _ B e1 (((k.ex e1.k).set hv).set hw)⟩
/-- a def's body hands back d -/
theorem body_of {R : List PyData → PyData → Prop} {N : List Str} {vs : List V} {H : Hp} {Q : VK} {E : XK} (h : spD K R vs H Q E) (hb : ∀ ds d, R ds d → StD K t (ds.map some ++ List.replicate (N.length - ds.length) none) (.ret d)) :
    t { nx := fun _ H' => Q .non H', rt := Q } (L2.start N vs) H := by
  obtain ⟨A, ds, d, rfl, ha, hr, q⟩ := h
  exact hb ds d hr _ A (KnS.start ha) _ q
end
end Lo
/-! A3: walks, comprehensions, for. -/
namespace Lo
open PySem L2 Evl PyProof.Rows

section
variable {K : PySem.W.Frag} {δ δ' : De} {ds es : List PyData} {ta tb te : TE} {tt : TT} {tb : TS} {d : PyData}
def sets (δ : De) : List (Nat × PyData) → De
  | [] => δ
  | (n, d) :: r => sets (δ.set n (some d)) r
/-- the target g of a value x: from what A knows, B stands; the slots of ε are set, others not -/
def TgD (K : PySem.W.Frag) (g : TG) (x : V) (A B : Hd) (ε : List (Nat × PyData)) : Prop :=
  ∀ (σ : L2.St) (δ : De), KnS K σ A.k δ → ∀ Q : L2.St → Hp → Prop, (∀ σ2, KnS K σ2 B.k (sets δ ε) → (∀ vs : List Nat, (∀ p ∈ ε, p.1 ∈ vs) → wipe σ2 vs = wipe σ vs) → Q σ2 B.h) → g x σ B.h Q
/-- walking wi to the target g: n turns, the i-th sets ε i -/
def SrcD (K : PySem.W.Frag) (wi : TI) (g : TG) (δ : De) (n : Nat) (ε : Nat → List (Nat × PyData)) : Prop :=
  ∀ (σ : L2.St) (A : Hd), KnS K σ A.k δ → ∀ R : It → Hp → Prop, (∀ (J : It) (B : Hd), Pr A B → (∀ i (C : Hd), i < n → Ex B.k C.k → J.go i C.h) → (∀ C : Hd, Ex B.k C.k → J.stop n C.h) →
    (∀ i (C : Hd) x H'', i < n → Ex B.k C.k → J.yld i C.h x H'' → ∃ C2 : Hd, C2.h = H'' ∧ Pr C C2 ∧ TgD K g x C C2 (ε i)) → R J B.h) → wi σ A.h R

theorem wipe_set {a : Nat} {o : Option V} (σ : L2.St) : ∀ vs : List Nat, a ∈ vs → wipe (σ.set a o) vs = wipe σ vs
  | [], h => by cases h
  | c :: vs, h => by
    show (wipe (σ.set a o) vs).set c none = (wipe σ vs).set c none
    by_cases hm : a ∈ vs
    · rw [wipe_set σ vs hm]
    · have e : a = c := by
        rcases List.mem_cons.mp h with e | e
        · exact e
        · exact absurd e hm
      subst e
      have go : ∀ ws : List Nat, a ∉ ws → wipe (σ.set a o) ws = (wipe σ ws).set a o := by
        intro ws
        induction ws with
        | nil => intro _; rfl
        | cons b ws ih =>
          intro hb
          show (wipe (σ.set a o) ws).set b none = ((wipe σ ws).set b none).set a o
          rw [ih (fun z => hb (List.mem_cons_of_mem _ z))]
          exact List.set_comm _ _ (fun z => hb (by rw [z]; exact List.mem_cons_self))
      rw [go vs hm, List.set_set]
theorem wipe_wipe (σ : L2.St) (vs : List Nat) : wipe (wipe σ vs) vs = wipe σ vs := by
  have go : ∀ ws us : List Nat, (∀ a ∈ us, a ∈ ws) → wipe (wipe σ us) ws = wipe σ ws := by
    intro ws us
    induction us with
    | nil => intro _; rfl
    | cons a us ih =>
      intro h
      show wipe ((wipe σ us).set a none) ws = _
      rw [wipe_set _ ws (h a List.mem_cons_self)]
      exact ih fun b hb => h b (List.mem_cons_of_mem _ hb)
  exact go vs vs fun _ h => h
theorem tg_name {n : Nat} {x : V} {d : PyData} {A B : Hd} (e : Pr A B) (h : Da K B.k x d) : TgD K (gName n) x A B [(n, d)] := fun σ δ k Q q =>
  q _ ((k.ex e.k).set h) fun vs hv => wipe_set σ vs (hv (n, d) List.mem_cons_self)
theorem tg_pair {m n : Nat} {T : Addr} {x y : V} {d e : PyData} {A B : Hd} (ex : Pr A B) (hT : B.h T = some (.tup [x, y])) (hx : Da K B.k x d) (hy : Da K B.k y e) :
    TgD K (gTup K 2 (gCons (gName m) (gCons (gName n) gNil))) (.ref T) A B [(m, d), (n, e)] := fun σ δ k Q q =>
  ⟨T, [x, y], rfl, SqT.of hT, rfl, x, [y], rfl, y, [], rfl, rfl, q _ (((k.ex ex.k).set hx).set hy) fun vs hv => by
    rw [wipe_set _ vs (hv (n, e) (by simp)), wipe_set _ vs (hv (m, d) (by simp))]⟩
theorem w_list {tl : TE} {n : Nat} (h : EvD K tl δ (.list ds)) : SrcD K (iList K tl) (gName n) δ ds.length (fun i => [(n, ds.getD i .none)]) := fun σ A k R q =>
  h σ A k _ fun v B e1 hv => by
    cases hv with
    | @lst a xs _ hl ha =>
      refine ⟨a, rfl, ⟨xs, SqL.of (B.ex _ _ hl)⟩, q _ B e1 (fun i C hi e => ?_) (fun C e => ?_) (fun i C x H'' hi e y => ?_)⟩
      · have hi' : i < xs.length := by rw [ha.len]; exact hi
        exact ⟨xs, xs[i], SqL.of (C.ex _ _ (e _ _ hl)), List.getElem?_eq_getElem hi'⟩
      · exact ⟨xs, SqL.of (C.ex _ _ (e _ _ hl)), by rw [ha.len]; exact Nat.le_refl _⟩
      · obtain ⟨rfl, y⟩ := y
        obtain ⟨d, h1, h2⟩ := ha.vat (y xs (SqL.of (C.ex _ _ (e _ _ hl))))
        refine ⟨C, rfl, Pr.refl _, tg_name (Pr.refl _) ?_⟩
        rw [List.getD_eq_getElem?_getD, h1]
        exact h2.ex e
theorem w_tup {tl : TE} {n : Nat} (h : EvD K tl δ (.tuple ds)) : SrcD K (iTup K tl) (gName n) δ ds.length (fun i => [(n, ds.getD i .none)]) := fun σ A k R q =>
  h σ A k _ fun v B e1 hv => by
    cases hv with
    | @tup a xs _ hl ha =>
      refine ⟨a, rfl, ⟨xs, ex_t B.ex hl⟩, q _ B e1 (fun i C hi e => ?_) (fun C e => ?_) (fun i C x H'' hi e y => ?_)⟩
      · have hi' : i < xs.length := by rw [ha.len]; exact hi
        exact ⟨xs, xs[i], ex_t C.ex (ex_t e hl), List.getElem?_eq_getElem hi'⟩
      · exact ⟨xs, ex_t C.ex (ex_t e hl), by rw [ha.len]; exact Nat.le_refl _⟩
      · obtain ⟨rfl, y⟩ := y
        obtain ⟨d, h1, h2⟩ := ha.vat (y xs (ex_t C.ex (ex_t e hl)))
        refine ⟨C, rfl, Pr.refl _, tg_name (Pr.refl _) ?_⟩
        rw [List.getD_eq_getElem?_getD, h1]
        exact h2.ex e
theorem w_rng1 {ta : TA} {n m : Nat} (h : EvDA K ta δ [.int (m : Int)]) (hm : m ≤ 100000) : SrcD K (iRng1 ta) (gName n) δ m (fun i => [(n, .int (i : Int))]) := fun σ A k R q =>
  h σ A k _ fun vs B e1 hv => by
    obtain ⟨v, rfl, hv1⟩ := hv.one
    cases hv1
    refine ⟨(m : Int), rfl, by omega, by omega, q _ B e1 (fun i C hi e => ?_) (fun C e => ?_) (fun i C x H'' hi e y => ?_)⟩
    · show i < (m : Int).toNat
      omega
    · show (m : Int).toNat ≤ m
      omega
    · obtain ⟨rfl, rfl⟩ := y
      refine ⟨C, rfl, Pr.refl _, tg_name (Pr.refl _) ?_⟩
      rw [Int.zero_add]
      exact .int _
theorem w_rng2 {ta : TA} {n : Nat} {lo hi : Int} (h : EvDA K ta δ [.int lo, .int hi]) (h1 : 0 ≤ lo) (h2 : lo ≤ hi) (h3 : hi ≤ 100000) : SrcD K (iRng2 ta) (gName n) δ (hi - lo).toNat (fun i => [(n, .int (lo + (i : Int)))]) := fun σ A k R q =>
  h σ A k _ fun vs B e1 hv => by
    obtain ⟨v, w, rfl, hv1, hw⟩ := hv.two
    cases hv1
    cases hw
    refine ⟨lo, hi, rfl, ⟨by omega, by omega, by omega, by omega⟩, q _ B e1 (fun i C hi' e => hi') (fun C e => Nat.le_refl _) (fun i C x H'' hi' e y => ?_)⟩
    obtain ⟨rfl, rfl⟩ := y
    exact ⟨C, rfl, Pr.refl _, tg_name (Pr.refl _) (.int _)⟩
theorem w_zipL {ta : TA} {m n : Nat} (h : EvDA K ta δ [.list ds, .list es]) : SrcD K (RZ.iZipA K ta) (gTup K 2 (gCons (gName m) (gCons (gName n) gNil))) δ (min ds.length es.length) (fun i => [(m, ds.getD i .none), (n, es.getD i .none)]) := fun σ A k R q =>
  h σ A k _ fun vs B e1 hv => by
    obtain ⟨v, w, rfl, hv1, hw⟩ := hv.two
    cases hv1 with
    | @lst a xs _ hl ha =>
      cases hw with
      | @lst b ys _ hl2 ha2 =>
        refine ⟨a, b, xs, ys, rfl, .inl ⟨SqL.of (B.ex _ _ hl), SqL.of (B.ex _ _ hl2), q _ B e1 (fun i C hi e => ?_) (fun C e => ?_) (fun i C x H'' hi e y => ?_)⟩⟩
        · have h1 : i < xs.length := by rw [ha.len]; omega
          have h2 : i < ys.length := by rw [ha2.len]; omega
          exact ⟨xs, ys, xs[i], ys[i], SqL.of (C.ex _ _ (e _ _ hl)), SqL.of (C.ex _ _ (e _ _ hl2)), List.getElem?_eq_getElem h1, List.getElem?_eq_getElem h2⟩
        · refine ⟨xs, ys, SqL.of (C.ex _ _ (e _ _ hl)), SqL.of (C.ex _ _ (e _ _ hl2)), ?_⟩
          rw [ha.len, ha2.len]
          omega
        · obtain ⟨T, x', y', rfl, hT, rfl, f1, f2⟩ := y
          obtain ⟨d, h1, h2⟩ := ha.vat (f1 xs (SqL.of (C.ex _ _ (e _ _ hl))))
          obtain ⟨d2, h3, h4⟩ := ha2.vat (f2 ys (SqL.of (C.ex _ _ (e _ _ hl2))))
          refine ⟨C.new T _ hT, rfl, C.pr hT, tg_pair (C.pr hT) upd_same ?_ ?_⟩
          · rw [List.getD_eq_getElem?_getD, h1]
            exact (h2.ex e).ex (C.pr hT).k
          · rw [List.getD_eq_getElem?_getD, h3]
            exact (h4.ex e).ex (C.pr hT).k
theorem w_zipT {ta : TA} {m n : Nat} (h : EvDA K ta δ [.tuple ds, .tuple es]) : SrcD K (RZ.iZipA K ta) (gTup K 2 (gCons (gName m) (gCons (gName n) gNil))) δ (min ds.length es.length) (fun i => [(m, ds.getD i .none), (n, es.getD i .none)]) := fun σ A k R q =>
  h σ A k _ fun vs B e1 hv => by
    obtain ⟨v, w, rfl, hv1, hw⟩ := hv.two
    cases hv1 with
    | @tup a xs _ hl ha =>
      cases hw with
      | @tup b ys _ hl2 ha2 =>
        refine ⟨a, b, xs, ys, rfl, .inr ⟨ex_t B.ex hl, ex_t B.ex hl2, q _ B e1 (fun i C hi e => ?_) (fun C e => ?_) (fun i C x H'' hi e y => ?_)⟩⟩
        · have h1 : i < xs.length := by rw [ha.len]; omega
          have h2 : i < ys.length := by rw [ha2.len]; omega
          exact ⟨xs, ys, xs[i], ys[i], ex_t C.ex (ex_t e hl), ex_t C.ex (ex_t e hl2), List.getElem?_eq_getElem h1, List.getElem?_eq_getElem h2⟩
        · refine ⟨xs, ys, ex_t C.ex (ex_t e hl), ex_t C.ex (ex_t e hl2), ?_⟩
          rw [ha.len, ha2.len]
          omega
        · obtain ⟨T, x', y', rfl, hT, rfl, f1, f2⟩ := y
          obtain ⟨d, h1, h2⟩ := ha.vat (f1 xs (ex_t C.ex (ex_t e hl)))
          obtain ⟨d2, h3, h4⟩ := ha2.vat (f2 ys (ex_t C.ex (ex_t e hl2)))
          refine ⟨C.new T _ hT, rfl, C.pr hT, tg_pair (C.pr hT) upd_same ?_ ?_⟩
          · rw [List.getD_eq_getElem?_getD, h1]
            exact (h2.ex e).ex (C.pr hT).k
          · rw [List.getD_eq_getElem?_getD, h3]
            exact (h4.ex e).ex (C.pr hT).k

/-! ### comprehensions -/
def givenD (n : Nat) (f : Nat → Bool) (val : Nat → PyData) : List PyData := ((List.range n).filter f).map val
theorem givenD_yes {n : Nat} {f : Nat → Bool} {val : Nat → PyData} (h : f n = true) : givenD (n + 1) f val = givenD n f val ++ [val n] := by
  unfold givenD
  rw [List.range_succ, List.filter_append, List.map_append, List.filter_cons, if_pos h]
  rfl
theorem givenD_no {n : Nat} {f : Nat → Bool} {val : Nat → PyData} (h : f n = false) : givenD (n + 1) f val = givenD n f val := by
  unfold givenD
  rw [List.range_succ, List.filter_append, List.map_append, List.filter_cons, if_neg (by rw [h]; decide)]
  show _ ++ [] = _
  rw [List.append_nil]
theorem givenD_len (n : Nat) (f : Nat → Bool) (val : Nat → PyData) : (givenD n f val).length ≤ n := by
  unfold givenD
  rw [List.length_map]
  have h := List.length_filter_le f (List.range n)
  rw [List.length_range] at h
  exact h
theorem there_ne {H H' : Hp} (e : Ex H H') {p : Addr} (h : H p ≠ none) : H' p ≠ none := fun z => h (fresh_back e z)
theorem d_lc {wi : TI} {g : TG} {vs : List Nat} {n : Nat} {ε : Nat → List (Nat × PyData)} {f : Nat → Bool} {val : Nat → PyData} (hs : SrcD K wi g δ n ε) (hn : n ≤ 50000) (hv : ∀ i, ∀ p ∈ ε i, p.1 ∈ vs)
    (ht : ∀ i, i < n → EvB K tt (sets (wipeD δ vs) (ε i)) (f i)) (he : ∀ i, i < n → f i = true → EvD K te (sets (wipeD δ vs) (ε i)) (val i)) : EvD K (tLc wi g tt te vs) δ (.list (givenD n f val)) := fun σ A k Q q =>
  hs σ A k _ fun J B e1 hgo hstop hyld Dl hD => by
    have hDk : B.k Dl = none := B.kn hD
    refine ⟨fun i m H' => m = n - i ∧ i ≤ n ∧ ∃ (C : Hd) (xs : List V), C.h = H' ∧ Ex B.k C.k ∧ Ex B.h C.h ∧ (∀ p, B.k p = none → B.h p ≠ none → C.k p = none) ∧ C.k Dl = none ∧ C.h Dl = some (.lst xs) ∧ DaAll K C.k xs (givenD i f val),
      ⟨n, by simp, Nat.zero_le _, B.mut Dl _ hDk, [], rfl, Ex.refl _, Ex.new hD, fun _ h _ => h, hDk, upd_same, .nil⟩, ?_⟩
    rintro i m H' ⟨rfl, hi, C, xs, rfl, x1, x2, x3, hD0, hL, hA⟩
    by_cases hlt : i < n
    · refine .inr ⟨hgo i C hlt x1, fun H2 => i + 1 ≤ n ∧ ∃ (C : Hd) (xs : List V), C.h = H2 ∧ Ex B.k C.k ∧ Ex B.h C.h ∧ (∀ p, B.k p = none → B.h p ≠ none → C.k p = none) ∧ C.k Dl = none ∧ C.h Dl = some (.lst xs) ∧ DaAll K C.k xs (givenD (i + 1) f val),
        fun H2 p => ⟨n - (i + 1), by omega, rfl, p⟩, fun x H'' y => ?_⟩
      obtain ⟨C2, rfl, c2, tg⟩ := hyld i C x H'' hlt x1 y
      have some_ne : C.h Dl ≠ none := fun z => by rw [hL] at z; cases z
      refine tg (wipe σ vs) (wipeD δ vs) ((k.ex (e1.k.trans x1)).wipe vs) _ fun σ2 k2 hw => ⟨(hw vs (hv i)).trans (wipe_wipe σ vs), ?_⟩
      refine ht i hlt σ2 C2 k2 _ fun C3 c3 => ?_
      have out : ∀ {C' : Hd}, Pr C C' → Ex B.k C'.k ∧ Ex B.h C'.h ∧ (∀ p, B.k p = none → B.h p ≠ none → C'.k p = none) ∧ C'.k Dl = none ∧ C'.h Dl = some (.lst xs) ∧ DaAll K C'.k xs (givenD i f val) := fun {C'} c =>
        ⟨x1.trans c.k, x2.trans c.h, fun p h1 h2 => c.fr p (x3 p h1 h2) (there_ne x2 h2), c.fr Dl hD0 some_ne, c.h _ _ hL, hA.ex c.k⟩
      cases hf : f i with
      | true =>
        show te σ2 C3.h fun y H4 => ∃ acc, H4 Dl = some (.lst acc) ∧ acc.length < sizeLine ∧ _
        refine he i hlt hf σ2 C3 (k2.ex c3.k) _ fun v C4 c4 h4 => ?_
        obtain ⟨y1, y2, y3, y4, y5, y6⟩ := out ((c2.trans c3).trans c4)
        have hlen := givenD_len i f val
        refine ⟨xs, y5, sz_lt (by rw [y6.len]; omega), by omega, C4.mut Dl _ y4, xs ++ [v], rfl, y1, ?_, y3, y4, upd_same, ?_⟩
        · exact Ex.mut y2 hD
        · rw [givenD_yes hf]
          exact y6.app (.cons h4 .nil)
      | false =>
        show i + 1 ≤ n ∧ _
        obtain ⟨y1, y2, y3, y4, y5, y6⟩ := out (c2.trans c3)
        refine ⟨by omega, C3, xs, rfl, y1, y2, y3, y4, y5, ?_⟩
        rw [givenD_no hf]
        exact y6
    · have e : i = n := by omega
      subst e
      refine .inl ⟨hstop C x1, ?_⟩
      -- the new list is known from now on
      have exC : Ex (upd C.k Dl (.lst xs)) C.h := fun a u z => by
        by_cases za : a = Dl
        · subst za
          rw [upd_same] at z
          rw [hL, z]
        · rw [upd_ne za] at z
          exact C.ex a u z
      let C' : Hd := ⟨upd C.k Dl (.lst xs), C.h, exC⟩
      have grow : Ex C.k C'.k := Ex.new hD0
      refine q (.ref Dl) C' ⟨e1.k.trans (x1.trans grow), e1.h.trans x2, fun p h1 h2 => ?_⟩ (.lst (show upd C.k Dl (.lst xs) Dl = _ from upd_same) (hA.ex grow))
      have hb : B.h p ≠ none := there_ne e1.h h2
      have ne : p ≠ Dl := fun z => by
        subst z
        exact hb hD
      show upd C.k Dl (.lst xs) p = none
      rw [upd_ne ne]
      exact x3 p (e1.fr p h1 h2) hb
theorem b_yes : EvB K tYes δ true := fun _ A _ _ q => q A (Pr.refl A)

/-! ### for -/
variable {wi : TI} {g : TG} {n : Nat} {ε : Nat → List (Nat × PyData)}
/-- all turns go on: from the environment δs i to δs (i + 1) -/
theorem s_for (δs : Nat → De) (hs : SrcD K wi g δ n ε) (h0 : Fgt δ (δs 0)) (hb : ∀ i, i < n → StD K tb (sets (δs i) (ε i)) (.next (δs (i + 1)))) : StD K (tFor wi g tb) δ (.next (δs n)) := fun σ A k D q =>
  hs σ A k _ fun J B e1 hgo hstop hyld => by
    refine ⟨fun i m σ' H' => m = n - i ∧ i ≤ n ∧ ∃ C : Hd, C.h = H' ∧ Pr B C ∧ KnS K σ' C.k (δs i), ⟨n, by simp, Nat.zero_le _, B, rfl, Pr.refl B, (k.ex e1.k).fgt h0⟩, ?_⟩
    rintro i m σ' H' ⟨rfl, hi, C, rfl, c1, k1⟩
    by_cases hlt : i < n
    · refine .inr ⟨hgo i C hlt c1.k, fun σ2 H2 => i + 1 ≤ n ∧ ∃ C : Hd, C.h = H2 ∧ Pr B C ∧ KnS K σ2 C.k (δs (i + 1)), fun σ2 H2 p => ⟨n - (i + 1), by omega, rfl, p⟩, fun x H'' y => ?_⟩
      obtain ⟨C2, rfl, c2, tg⟩ := hyld i C x H'' hlt c1.k y
      refine tg σ' (δs i) k1 _ fun σ2 k2 _ => hb i hlt σ2 C2 k2 _ fun σ3 C3 c3 k3 => ⟨hlt, C3, rfl, (c1.trans c2).trans c3, k3⟩
    · have e : i = n := by omega
      subst e
      exact .inl ⟨hstop C c1.k, q σ' C (e1.trans c1) k1⟩
/-- turn m hands d back, those ahead of it go on -/
theorem s_forR (δs : Nat → De) (m : Nat) (hm : m < n) (hs : SrcD K wi g δ n ε) (h0 : Fgt δ (δs 0)) (hb : ∀ i, i < m → StD K tb (sets (δs i) (ε i)) (.next (δs (i + 1)))) (hr : StD K tb (sets (δs m) (ε m)) (.ret d)) : StD K (tFor wi g tb) δ (.ret d) := fun σ A k D q =>
  hs σ A k _ fun J B e1 hgo hstop hyld => by
    refine ⟨fun i r σ' H' => r = n - i ∧ i ≤ m ∧ ∃ C : Hd, C.h = H' ∧ Pr B C ∧ KnS K σ' C.k (δs i), ⟨n, by simp, Nat.zero_le _, B, rfl, Pr.refl B, (k.ex e1.k).fgt h0⟩, ?_⟩
    rintro i r σ' H' ⟨rfl, hi, C, rfl, c1, k1⟩
    have hlt : i < n := by omega
    refine .inr ⟨hgo i C hlt c1.k, fun σ2 H2 => i + 1 ≤ m ∧ ∃ C : Hd, C.h = H2 ∧ Pr B C ∧ KnS K σ2 C.k (δs (i + 1)), fun σ2 H2 p => ⟨n - (i + 1), by omega, rfl, p⟩, fun x H'' y => ?_⟩
    obtain ⟨C2, rfl, c2, tg⟩ := hyld i C x H'' hlt c1.k y
    refine tg σ' (δs i) k1 _ fun σ2 k2 _ => ?_
    by_cases hmi : i < m
    · exact hb i hmi σ2 C2 k2 _ fun σ3 C3 c3 k3 => ⟨hmi, C3, rfl, (c1.trans c2).trans c3, k3⟩
    · have e : i = m := by omega
      subst e
      exact hr σ2 C2 k2 _ fun v C3 c3 h3 => q v C3 (((e1.trans c1).trans c2).trans c3) h3
end
end Lo
/-! A4: enumerate of a tuple. -/
namespace Lo
open PySem PySem.Spec L2 Evl PyProof.Rows

/-- enumerate(v) by what iter(v) makes -/
theorem enum_made {v : Value} {o : Obj} {G : Heap → Prop} (B : Begins v o G) :
    Meets (Builtin.«enumerate.__new__» ⟨[.type "enumerate", v], []⟩) (fun _ R s => G s.heap ∧
      R (.ok (.ret (.ref (s.heap.push o).objs.size))) { s with
        heap := (s.heap.push o).push { cls := .type "enumerate", data := .fields #[.none, .bool false, .ref s.heap.objs.size, rawInt 0, .none, .none] } }) :=
  .of_wp fun prog w A R s h => by
    obtain ⟨hp, g, dr, tk, os⟩ := s
    obtain ⟨h1, h2⟩ := h
    have hsub := sub_enumerate
    have it0 : ∀ {A' : Around} {E Q : Value → Shared → Prop}, Q (.ref hp.objs.size) ⟨hp.push o, g, dr, tk, os⟩ → wpAny (model prog w) A' (pyIter v) Q E ⟨hp, g, dr, tk, os⟩ :=
      fun z => B.iter prog w _ _ ⟨hp, g, dr, tk, os⟩ _ h1 z
    wp_walk using it0
    refine wpAny_stack_any fun st => wpAny_pure ?_
    split
    · rename_i c _ _ _ _ _
      cases (c == Value.type "enumerate") <;>
        (wp_walk using it0
         exact ⟨_, rfl, h2⟩)
    · wp_walk using it0
      exact ⟨_, rfl, h2⟩
theorem call_enumT {prog : Program} {w : World} {A : Around} {E Q : Value → Shared → Prop} {s : Shared} {a : Addr} {items : Array Value} (hT : s.heap.IsTuple a items)
    (h : ∀ h', IsEnum h' (s.heap.objs.size + 1) s.heap.objs.size 0 .none → h'.IsTupleIter s.heap.objs.size a 0 → (∀ b o, s.heap.get? b = some o → h'.get? b = some o) → Q (.ref (s.heap.objs.size + 1)) { s with heap := h' }) :
    wpAny (model prog w) A (call (.type "enumerate") [.ref a]) Q E s := by
  refine callType_new F.called_enumerate (by decide) (F.typeCall_enumerate_1 _) (F.newCall_enumerate_1 _) (fun obj => F.args_object_init_2 obj _) F.entry_enumerate_new (enum_made (begins_tuple a items)) ⟨hT, ?_⟩
  have hz : (s.heap.push { cls := .type "tuple_iterator", data := .fields #[.ref a, .int 0 0] }).objs.size = s.heap.objs.size + 1 := Heap.size_push ..
  show _ ∧ _
  rw [hz]
  have old : ∀ b o, s.heap.get? b = some o → ((s.heap.push { cls := .type "tuple_iterator", data := .fields #[.ref a, .int 0 0] }).push
      { cls := .type "enumerate", data := .fields #[.none, .bool false, .ref s.heap.objs.size, rawInt 0, .none, .none] }).get? b = some o := fun b o x => Heap.get?_push_of_some _ (Heap.get?_push_of_some _ x)
  have he := Heap.get?_push_size (s.heap.push { cls := .type "tuple_iterator", data := .fields #[.ref a, .int 0 0] })
    (o := { cls := .type "enumerate", data := .fields #[.none, .bool false, .ref s.heap.objs.size, rawInt 0, .none, .none] }) rfl
  rw [hz] at he
  exact ⟨⟨_, he, rfl⟩, h _ he ⟨_, Heap.get?_push_of_some _ (Heap.get?_push_size _ rfl), rfl, rfl⟩ old⟩
/-- the tuple at a, each item in a new pair behind its number -/
def IteT (K : PySem.W.Frag) (a : Addr) : It :=
  ⟨fun i H => ∃ (xs : List V) (x : V), SqT K H a xs ∧ xs[i]? = some x,
    fun i H v H' => ∃ T x, v = .ref T ∧ H T = none ∧ H' = upd H T (.tup [.int (i : Nat), x]) ∧ ∀ xs, SqT K H a xs → xs[i]? = some x,
    fun i H => ∃ xs : List V, SqT K H a xs ∧ xs.length = i⟩
theorem turn_enumT {P : Program} {w : World} {K : PySem.W.Frag} {elts : List Expr} {kk : Nat} {tpos : Pos} (a e it : Addr) :
    Turn P w K (.Tuple elts kk tpos) (IteT K a) [e, it] e (fun i h => (∃ old, IsEnum h e it (0 + ((i : Nat) : Int)) old) ∧ h.IsTupleIter it a i ∧ e ≠ it ∧ a ≠ it ∧ a ≠ e) where
  mem := List.mem_cons_self
  obj := fun i h st b hb => by
    obtain ⟨⟨old, he⟩, ⟨o, ho, hc, hd⟩, _⟩ := st
    rcases List.mem_cons.mp hb with z | z
    · rw [z]
      exact ⟨_, he, fun v q => nomatch q⟩
    · rw [List.mem_singleton.mp z]
      exact ⟨o, ho, fun v q => by
        rw [hd] at q
        cases q⟩
  keep := fun i h h' st k => by
    obtain ⟨⟨old, he⟩, hit, ne⟩ := st
    exact ⟨⟨old, k e List.mem_cons_self _ he⟩, hit.at fun o q => k it (by simp) o q, ne⟩
  item := by
    intro X hP hw hK hc i pins s σ H E I hf st hg
    subst hP hw hK
    obtain ⟨⟨old, he⟩, hit, ne1, ne2, ne3⟩ := st
    obtain ⟨xs, x, hq, hx⟩ := hg
    obtain ⟨its, rv, p, hz⟩ := I.tuple hq
    obtain ⟨u, hu, ru⟩ := rv.get hx
    have le : e < s.heap.objs.size := Heap.lt_size he
    have li : it < s.heap.objs.size := by
      obtain ⟨_, q, _⟩ := hit
      exact Heap.lt_size q
    have hi : i < its.toArray.size := by
      have := (List.getElem?_eq_some_iff.mp hu).1
      simpa using this
    have nf : e ∉ [it, a] := by
      intro q
      rcases List.mem_cons.mp q with z | z
      · exact ne1 z
      · exact ne3 (List.mem_singleton.mp z).symm
    refine wpAny_pyNext_enum_itemC (Draws.tuple (A := X.A.in1) (I.ok.hd hc) it a ne2 its.toArray) he ⟨hit, p⟩ hi ne1 nf fun y h' tk hy ho st' hT hsz hk => ?_
    have ey : y = u := by
      have hy2 : its.toArray[i]? = some y := hy
      rw [List.getElem?_toArray, hu] at hy2
      exact (Option.some.inj hy2).symm
    subst ey
    refine ⟨_, rfl, wpAny_letOwnedTupleGo_enum (s := { s with heap := h', toks := tk + 1 }) ho fun h'' he' sb => ?_⟩
    have e0 : (0 : Int) + (i : Int) = (i : Int) := Int.zero_add _
    rw [e0] at hT
    have hT2 := (sb.2 _ (Nat.ne_of_gt le)).trans hT
    have new : ObjOk X.prog X.w (upd H s.heap.objs.size (.tup [.int (i : Nat), x])) h'' s.heap.objs.size (.tup [.int (i : Nat), x]) :=
      ⟨by show 2 ≤ sizeLine; decide, [.int i tk, y], .cons ⟨_, rfl⟩ (.cons ru .nil), ⟨_, hT2, rfl, _, rfl⟩⟩
    have I1 : Inv X pins σ (upd H s.heap.objs.size (.tup [.int (i : Nat), x])) { s with heap := h'', toks := tk + 1 } :=
      I.turnedNew (ch := [e, it]) (fun b o hb q => (sb.2 b (fun z => hb (by rw [z]; exact List.mem_cons_self))).trans
        (hk b o (fun z => hb (by rw [z]; exact List.mem_cons_self)) (fun z => hb (by rw [z]; simp)) q)) hf (Nat.le_refl _) new
    refine ⟨.ref s.heap.objs.size, _, I1, rfl, ⟨_, x, rfl, I.hok.fresh (Nat.le_refl _), rfl, fun ys hy => by rw [I.tuple_inj hy hq]; exact hx⟩, ⟨⟨y, ?_⟩, st'.1.at fun o q => (sb.2 it (Ne.symm ne1)).trans q, ne1, ne2, ne3⟩, fun b hb => ?_⟩
    · have e1 : (0 : Int) + ((i + 1 : Nat) : Int) = 0 + (i : Int) + 1 := by omega
      rw [e1]
      exact he'
    · have hb' : b < s.heap.objs.size := by
        rcases List.mem_cons.mp hb with z | z
        · rw [z]
          exact le
        · rw [List.mem_singleton.mp z]
          exact li
      rw [upd_ne (Nat.ne_of_lt hb')]
      exact (hf b hb).1
  done := by
    intro X hP hw hK hc i pins s σ H E I hf st hg
    subst hP hw hK
    obtain ⟨⟨old, he⟩, hit, ne1, ne2, ne3⟩ := st
    obtain ⟨xs, hq, hx⟩ := hg
    obtain ⟨its, rv, p, hz⟩ := I.tuple hq
    obtain ⟨f0, f1, f2, f3, f4, f5⟩ := hf it (by simp)
    have hl := rv.length
    have en : its.toArray.size = i := by
      rw [List.size_toArray, ← hl, hx]
    exact wpAny_pyNext_enum_endD (Draws.tuple (A := X.A.in1) (I.ok.hd hc) it a ne2 its.toArray) he (by rw [en]; exact ⟨hit, p⟩) fun h' hx' => ⟨rfl, I.turned (t' := s.toks) (fun b o hb q => hx' b o hb q) f0 f1 f3 f4 f5⟩
  self := fun A i s Q E st h => let ⟨⟨_, he⟩, _⟩ := st; wpAny_pyIter_enum he h
def iEnumT (K : PySem.W.Frag) (ta : TA) : TI := fun σ H R => ta σ H fun vs H1 => ∃ a xs, vs = [.ref a] ∧ SqT K H1 a xs ∧ R (IteT K a) H1
section
variable {K : PySem.W.Frag} {δ : De} {ds : List PyData}
theorem w_enumT {ta : TA} {m n : Nat} (h : EvDA K ta δ [.tuple ds]) : SrcD K (iEnumT K ta) (gTup K 2 (gCons (gName m) (gCons (gName n) gNil))) δ ds.length (fun i => [(m, .int (i : Nat)), (n, ds.getD i .none)]) := fun σ A k R q =>
  h σ A k _ fun vs B e1 hv => by
    obtain ⟨v, rfl, hv1⟩ := hv.one
    cases hv1 with
    | @tup a xs _ hl ha =>
      refine ⟨a, xs, rfl, ex_t B.ex hl, q _ B e1 (fun i C hi e => ?_) (fun C e => ?_) (fun i C x H'' hi e y => ?_)⟩
      · have hi' : i < xs.length := by rw [ha.len]; exact hi
        exact ⟨xs, xs[i], ex_t C.ex (ex_t e hl), List.getElem?_eq_getElem hi'⟩
      · exact ⟨xs, ex_t C.ex (ex_t e hl), ha.len⟩
      · obtain ⟨T, x', rfl, hT, rfl, f1⟩ := y
        obtain ⟨d, h1, h2⟩ := ha.vat (f1 xs (ex_t C.ex (ex_t e hl)))
        refine ⟨C.new T _ hT, rfl, C.pr hT, tg_pair (C.pr hT) upd_same (.int _) ?_⟩
        rw [List.getD_eq_getElem?_getD, h1]
        exact (h2.ex e).ex (C.pr hT).k
end
theorem pi_enumT {X : Cx} {e : Expr} {ta : TA} {p pos tpos : Pos} {elts : List Expr} {kk : Nat} (hg : Gl X "enumerate") (hm : X.mg "enumerate" = none) (ha : PA X [e] ta) (hs : starEach [e] X.env = [(false, eval e X.env)] := by rfl) :
    PI X (.Tuple elts kk tpos) (.Call (.Name "enumerate" p) [e] [] pos) (iEnumT X.K ta) := by
  constructor
  intro pins s σ H R I h
  refine Call_ (ld_blt I hg hm boot_enumerate (PyProof.Rows.callWith_type1 (thn (ha.run pos pins s σ H _ I h) fun us s1 ⟨vs, H1, I1, r1, q1⟩ => ?_) hs rfl))
  obtain ⟨a, xs, ex, hq, q⟩ := q1
  subst ex
  have e1 := Vals.ref1 r1
  subst e1
  obtain ⟨its, rv, p', hz⟩ := I1.tuple hq
  have la : a < s1.heap.objs.size := by
    obtain ⟨_, z, _⟩ := id p'
    exact Heap.lt_size z
  refine call_enumT (show s1.heap.IsTuple a its.toArray from p') fun h' he hit hk => wpAny_pyIter_enum he ?_
  have I2 : Inv X pins σ H1 { s1 with heap := h' } := I1.kept (t' := s1.toks) hk
  refine ⟨s1.heap.objs.size + 1, [s1.heap.objs.size + 1, s1.heap.objs.size], _, _, H1, rfl, I2, turn_enumT a (s1.heap.objs.size + 1) s1.heap.objs.size, ⟨⟨.none, he⟩, hit, Nat.succ_ne_self _, Nat.ne_of_lt la, Nat.ne_of_lt (Nat.lt_succ_of_lt la)⟩, fun b hb => ?_, q⟩
  have hle : s1.heap.objs.size ≤ b := by
    rcases List.mem_cons.mp hb with z | z
    · rw [z]
      exact Nat.le_succ _
    · rw [List.mem_singleton.mp z]
      exact Nat.le_refl _
  exact I1.fpOk hle (I1.hok.fresh hle)
end Lo
/-! A5: the set of a tuple, exceptions without arguments, several clauses with a name, a def picked out of a list. -/
namespace Lo
open PySem PySem.Spec L2 Evl PyProof.Rows

/-! ### len(set(t)) -/
def tLenSetT (K : PySem.W.Frag) (ta : TE) : TE := fun σ H Q => ta σ H fun x H1 => ∃ (l : Addr) (ns : List Int), x = .ref l ∧ SqT K H1 l (ns.map V.int) ∧ ns.length < 1000 ∧
  ∀ ks : List Int, ks.Nodup → (∀ k, k ∈ ks ↔ k ∈ ns) → Q (.int (ks.length : Nat)) H1
theorem pe_lenSetT {X : Cx} {a : Expr} {ta : TE} {p p2 q pos : Pos} (hc : X.calm = true) (hg : Gl X "len") (hm : X.mg "len" = none) (hg2 : Gl X "set") (hm2 : X.mg "set" = none) (ha : PE X a ta)
    (na : starEach [a] X.env = (false, eval a X.env) :: starEach [] X.env := by rfl) : PE X (.Call (.Name "len" p) [.Call (.Name "set" p2) [a] [] q] [] pos) (tLenSetT X.K ta) := by
  constructor
  intro pins s σ H Q I h
  refine Call_ (ld_blt I hg hm PySem.boot_len (PyProof.Rows.callWith_builtin1 (PyProof.Rows.args_cons ?_ rfl) rfl rfl))
  refine Call_ (ld_blt I hg2 hm2 PyProof.Rows.boot_set (PyProof.Rows.callWith_type1 (PyProof.Rows.args_cons (thn (ha.run pins s σ H _ I h) fun v s1 ⟨x, H1, I1, r1, q1⟩ => PyProof.Rows.args_nil ?_) na) na rfl))
  obtain ⟨l, ns, ex, hq, hl, q1⟩ := q1
  subst ex
  obtain rfl : v = Value.ref l := r1
  obtain ⟨its, rv, pt, hz⟩ := I1.tuple hq
  refine call_set_tupI ns (I1.ok.hd hc) (show s1.heap.IsTuple l its.toArray from pt) (Vals.ints rv) (by unfold scanBound; omega) fun h' tk c R1 hcn k => PyProof.Rows.args_nil ?_
  obtain ⟨o, es, ep, t, ho, hex, hdt, g, nd, hm3, hb, hf, hn, _⟩ := R1
  have I2 : Inv X pins σ H1 { s1 with heap := h', toks := tk } := I1.kept k
  have q2 := q1 (es.toList.map keyOf) nd fun j => by
    rw [← hm3 j]
    exact decide_eq_true_iff
  have el : (es.toList.map keyOf).length = es.size := by rw [List.length_map, Array.length_toList]
  rw [el] at q2
  exact call_len_set ho hex hdt hf (by unfold scanBound at hb; omega) ⟨.int (es.size : Nat), H1, I2.tok _, ⟨_, rfl⟩, q2⟩
section
variable {K : PySem.W.Frag} {δ : De} {ta te : TE}
theorem d_lenSet {ns ks : List Int} (h : EvD K ta δ (ti ns)) (hl : ns.length < 1000) (nd : ks.Nodup) (hm : ∀ k, k ∈ ks ↔ k ∈ ns) : EvD K (tLenSetT K ta) δ (.int (ks.length : Nat)) := fun σ A k Q q =>
  h σ A k _ fun v B e1 hv => by
    cases hv with
    | tup hs ha =>
      have e := ha.ints_inv
      subst e
      refine ⟨_, ns, rfl, ex_t B.ex hs, hl, fun ks' nd' hm' => ?_⟩
      have s1 : ks' ⊆ ks := fun x hx => (hm x).mpr ((hm' x).mp hx)
      have s2 : ks ⊆ ks' := fun x hx => (hm' x).mpr ((hm x).mp hx)
      have e : ks'.length = ks.length := Nat.le_antisymm (nd'.length_le_of_subset s1) (nd.length_le_of_subset s2)
      rw [e]
      exact q _ B e1 (.int _)
end

/-! ### X(), X an own exception class without own __init__ -/
theorem pmk0 {X : Cx} {C : Addr} {bmB : List Value} {Bn newId initId : String} {x : Str} {p pos : Pos} (F : ExcBaseFacts Bn newId initId bmB) (q : PySem.W.excIn X.K C bmB newId = true) (gC : X.mg x = some (.ref C))
    (kC : PySem.W.keepIn X.K (.ref C) = true) (r : Raises X (.ref C)) (hg : Gl X x) (hdb : (x == ("__debug__" : Str)) = false := by decide) : PMk X (.Call (.Name x p) [] [] pos) (fun _ H Q => Q (.ref C) none H) := fun pins s σ H Q I h => by
  refine wpAny_Call_Name_kw (ld_glob I hg gC (PySem.W.callWith_K0 I.kIn kC ?_) hdb)
  obtain ⟨bm, N, nm, qn, bs, hdct, sn, sub, ab, col, dd, k0, k1, k2, k3, k5, mN, hC, hN, hni, T⟩ := exc_obj I.kIn q
  refine wpAny_call_exc_subT (rest := []) F T hC hN hni (fun h' e hm => ?_) (Nat.zero_le _)
  exact mk_of I hm r h (I.hok.gone hm.new)

/-! ### f picked out of a list, called -/
def tCallV (f : Addr) (sp : Sp) (E : L2.St → XK) (te : TE) (t : TA) : TE := fun σ H Q => te σ H fun v H1 => v = .ref f ∧ t σ H1 fun vs H2 => sp vs H2 Q (E σ)
theorem pe_callV {X : Cx} {CX : CXT} {k : Nat} {f : Addr} {fd : FuncData} {ps : List Str} {sp : Sp} {E : L2.St → XK} {pos : Pos} {fe e : Expr} {es : List Expr} {te : TE} {t : TA} (F : FnOk X.prog X.w X.K X.mg X.base CX k f fd ps sp) (hr : Room k X.A)
    (hk : PySem.W.keepIn X.K (.ref f) = true) (hb : Binds X.K fd ps []) (hx : ∀ σ, PassesAt CX X σ (E σ)) (hf : PE X fe te) (ha : PA X (e :: es) t)
    (hev : eval (.Call fe (e :: es) [] pos) X.env = (do callWith pos (← eval fe X.env) [] (backTo pos (starEach (e :: es) X.env)) (backToKw pos (keywordEach [] X.env))) := by rfl)
    (he : starEach (e :: es) X.env = (false, eval e X.env) :: starEach es X.env := by rfl) (hpl : (backTo pos (starEach es X.env)).any (·.1) = false := by rfl) : PE X (.Call fe (e :: es) [] pos) (tCallV f sp E te t) := by
  constructor
  intro pins s σ H Q I h
  refine Call_ (thn (hf.run pins s σ H _ I h) fun v s1 ⟨x, H1, I1, r1, ex, q1⟩ => ?_) hev
  subst ex
  obtain rfl : v = Value.ref f := r1
  refine PySem.W.callWith_K (h₀ := X.base) I.ok.mod.kin hk (thn (ha.run pos pins s1 σ H1 _ I1 q1) fun us s2 ⟨vs, H2, I2, r, q⟩ => ⟨I2.kIn, ?_⟩) he hpl
  exact run_fnS F hr hb (hx σ) I2 r q

/-! ### try .. except A as n: .. except B as n: .. -/
/-- the ends of a clause's suite: its name, in slot i, is gone -/
def goneE (i : Nat) (D : Ends) : Ends where
  nx := fun σ H => D.nx (σ.set i none) H
  rt := D.rt
  bk := fun σ H => D.bk (σ.set i none) H
  ct := fun σ H => D.ct (σ.set i none) H
abbrev Cl := Value × (Addr → Value → Option Addr → TS)
def wClauses (K : PySem.W.Frag) (i : Nat) (Wout : WX) (D : Ends) : List Cl → WX
  | [] => Wout
  | p :: r => fun cls d σ H => ∃ b, PySem.W.exmOne K cls p.1 = some b ∧ (b = true → ∀ a, H a = none → p.2 a cls d (goneE i D) (σ.set i (some (.ref a))) H) ∧ (b = false → wClauses K i Wout D r cls d σ H)
inductive ClsOk (X : Cx) (n : Str) : List ExceptHandler → List Cl → Prop
  | nil : ClsOk X n [] []
  | cons {x : Str} {c : Value} {ts : Addr → Value → Option Addr → TS} {b₀ : Stmt} {suite : List Stmt} {np pos' : Pos} {hds : List ExceptHandler} {l : List Cl} (hc : Names X x c)
      (hsu : ∀ (a : Addr) (oe : Obj) (cls : Value) (d : Option Addr) (pn : List (Addr × Obj)), Zc cls d oe → (∃ vs, oe.data = .fields vs) → PSs (X.suite a ((a, oe) :: pn)) (b₀ :: suite) (ts a cls d)) (r : ClsOk X n hds l) :
      ClsOk X n (.ExceptHandler (some (.Name x np)) (some n) (b₀ :: suite) pos' :: hds) ((c, ts) :: l)
theorem SP.ofTry' {X : Cx} {pins pn' : List (Addr × Obj)} {xe : Value → Shared → Prop} {D : Ends} {f : Flow} {s : Shared} (ok : X.Ok) (h : SP (X.tr (X.pn ++ pins) xe) pn' D f s) : SP X pins D f s := by
  cases f with
  | next => exact let ⟨σ', H', J, q⟩ := h; ⟨σ', H', J.ofTry ok, q⟩
  | brk => exact let ⟨σ', H', J, q⟩ := h; ⟨σ', H', J.ofTry ok, q⟩
  | cont => exact let ⟨σ', H', J, q⟩ := h; ⟨σ', H', J.ofTry ok, q⟩
  | ret u => exact let ⟨v, σ', H', J, r, q⟩ := h; ⟨v, σ', H', J.ofTry ok, r, q⟩
theorem ps_tryN {X : Cx} {n : Str} {i : Nat} {body : List Stmt} {h₀ : ExceptHandler} {hds : List ExceptHandler} {l : List Cl} {pos : Pos} {tb : WX → TS} {Wout : WX}
    (hs : X.stack = X.env :: X.outer) (hf : X.env.frame = some X.env.locals) (hN : X.N.Nodup) (hi : X.N[i]? = some n) (hln : X.env.kindOf n = some .local) (tk : Takes X Wout)
    (hb : ∀ (W : WX) (pn : List (Addr × Obj)) (xe : Value → Shared → Prop), Takes (X.tr pn xe) W → PassesOwn (model X.prog X.w) X.A X.env xe → PSs (X.tr pn xe) body (tb W))
    (hh : ClsOk X n (h₀ :: hds) l) : PS X (.Try body (h₀ :: hds) [] [] pos) (fun D σ H => tb (wClauses X.K i Wout D l) D σ H) := by
  constructor
  intro pins s σ H D I h
  have ok := I.ok
  have hfr : X.A.frames = some (X.env :: X.outer) := by rw [ok.frames, hs]
  have hloc : Loc X.env.scope n := .inl hln
  have inner := hb (wClauses X.K i Wout D l) (X.pn ++ pins) (fun e s₁ => wpAny (model X.prog X.w) X.A (noteFrame e X.env)
    (fun _ s₂ => wpAny (model X.prog X.w) X.A (setFlight e none) (fun _ s₃ => wpAny (model X.prog X.w) X.A (handleBy e X.env (h₀ :: hds)) (SP X pins D) X.xe s₃) X.xe s₂) X.xe s₁) (fun u s' xx => ?_) PassesOwn.looking
  · refine wpAny_Try_except (wpAny_mono (inner.run [] s σ H D (I.toTry _) h) (fun f s1 hsp => ?_) (fun _ _ he => he))
    have hsp' := SP.ofTry' ok hsp
    cases f with
    | next => exact wpAny_execs_nil hsp'
    | brk => exact hsp'
    | cont => exact hsp'
    | ret u => exact hsp'
  · obtain ⟨a, B, sI, pins', σ', H', cls, d, rfl, J', nb, up, sky, na, os, ag, w⟩ := xx
    have J : Inv X pins σ' H' sI := J'.ofTry ok
    have sky' : Sky B (X.env :: X.outer) a (Zc cls d) X.env.locals s'.heap := hs ▸ sky
    show wpAny (model X.prog X.w) X.A (noteFrame (.ref a) X.env) _ _ _
    refine Sky.land Zc.steady hfr hf sky' fun h3 fl3 up3 => ?_
    have J3 : Inv X pins σ' H' { s' with heap := h3 } := J.landed nb fl3.1 (up.trans up3) os ag
    obtain ⟨oe3, vs3, he3, hz3, hd3⟩ := fl3.there
    have nfr : a ∉ frs (X.env :: X.outer) := fun hm => by
      obtain ⟨_, o', e', hnf⟩ := fl3.2.2.1.mem hm
      rw [he3] at e'
      cases e'
      exact hnf _ hd3
    have nL : a ≠ X.env.locals := fun z => nfr (List.mem_filterMap.mpr ⟨X.env, List.mem_cons_self, hf.trans (congrArg some z.symm)⟩)
    have nF : a ∉ X.fs := fun hm => by
      obtain ⟨e, he, q⟩ := List.mem_filterMap.mp hm
      exact nfr (List.mem_filterMap.mpr ⟨e, List.mem_cons_of_mem _ he, q⟩)
    have S3 := J3.suite he3 hd3 na nL nF
    have LT : PySem.W.Looks (model X.prog X.w) h3 (typeOf (.ref a)) cls := fun A Q E s k q => wpAny_typeOf_ref (k _ _ he3) (hz3.1 ▸ q)
    suffices go : ∀ (hs' : List ExceptHandler) (l' : List Cl), ClsOk X n hs' l' → wClauses X.K i Wout D l' cls d σ' H' → wpAny (model X.prog X.w) X.A (handleBy (.ref a) X.env hs') (SP X pins D) X.xe { s' with heap := h3 } from go _ _ hh w
    intro hs' l' hk
    induction hk with
    | nil =>
      intro w'
      obtain ⟨_, _, _, oe, vs, T, oT, ts', he, hz, hd, h1, hr⟩ := id fl3
      have fin : wpAny (model X.prog X.w) X.A (setFlight (.ref a) X.env.frame) (fun _ s4 => wpAny (model X.prog X.w) X.A (throw (.ref a) : Sem Flow) (SP X pins D) X.xe s4) X.xe { s' with heap := h3 } := by
        rw [hf]
        exact HandSPX.setFlight_upZ fl3 fun h4 hh4 up4 => wpAny_throw (tk _ _ ⟨a, B, sI, pins, σ', H', cls, d, rfl, J, nb, (up.trans up3).trans up4, .inr (.inr (hs ▸ hh4)), na, os, ag, w'⟩)
      refine wpAny_handleBy_nil ?_
      unfold PySem.passOn
      refine wpAny_bind (wpAny_field he hd h1 ?_)
      rw [if_neg (by simp : ¬ ((Value.ref T == Value.none) = true))]
      first
        | exact wpAny_bind fin
        | exact wpAny_bind (wpAny_pure (wpAny_bind fin))
    | @cons x c ts b₀ suite np pos' hds2 l2 hc hsu r ih =>
      intro w'
      obtain ⟨b, hb1, hyes, hno⟩ := w'
      have LM := PySem.W.exm_one (M := model X.prog X.w) J3.kIn LT hb1
      refine wpAny_handleBy_cons (codeAny_handlers_test ?_) (fun q => nomatch q)
      have test : ∀ {Q E : Value → Shared → Prop}, Q c { s' with heap := h3 } → wpAny (model X.prog X.w) (X.A.mark (some (.ref a))) (eval (.Name x np) X.env) Q E { s' with heap := h3 } := fun q => by
        obtain ⟨hg, hdbg, hm | ⟨hm, hv, hnn⟩⟩ := hc
        · exact ld_glob (X := X.suite a ((a, oe3) :: (X.pn ++ pins))) S3 hg hm q hdbg
        · exact ld_blt (X := X.suite a ((a, oe3) :: (X.pn ++ pins))) S3 hg hm hv q hnn hdbg
      refine test (LM.here ?_)
      cases b with
      | false => exact ih (hno rfl)
      | true =>
        refine codeAny_handlers_suite_as (HandSPX.lands_againZ fl3 fun h4 fl4 up4 => ?_)
        have J4 : Inv X pins σ' H' { s' with heap := h4 } := J.landed nb fl4.1 ((up.trans up3).trans up4) os ag
        obtain ⟨oe4, vs4, he4, hz4, hd4⟩ := fl4.there
        have S4 := J4.suite he4 hd4 na nL nF
        refine store_ok (X := X.suite a ((a, oe4) :: (X.pn ++ pins))) (v := .ref a) S4 hN hi hloc rfl (fun s5 S5 => ?_) (.inr hln)
        refine wpAny_mono ((hsu a oe4 cls d (X.pn ++ pins) hz4 ⟨_, hd4⟩).run [] s5 _ H' _ S5 (hyes rfl a na)) (fun f s6 hsp => ?_) (fun _ _ z => z.elim)
        have out : ∀ {σ6 : L2.St} {H6 : Hp} {Q : Shared → Prop}, Inv (X.suite a ((a, oe4) :: (X.pn ++ pins))) [] σ6 H6 s6 → (∀ s7, Inv X pins (σ6.set i none) H6 s7 → Q s7) →
            wpAny (model X.prog X.w) X.A (do bindName X.env n .none; unbindBehindTheSuite X.env n pos') (fun _ s7 => Q s7) X.xe s6 := fun S6 hq => gone_ok (S6.unsuite ok) hN hi hln hq
        cases f with
        | next =>
          obtain ⟨σ6, H6, S6, q6⟩ := hsp
          exact out S6 fun s7 J7 => ⟨_, _, J7, q6⟩
        | brk =>
          obtain ⟨σ6, H6, S6, q6⟩ := hsp
          exact out S6 fun s7 J7 => ⟨_, _, J7, q6⟩
        | cont =>
          obtain ⟨σ6, H6, S6, q6⟩ := hsp
          exact out S6 fun s7 J7 => ⟨_, _, J7, q6⟩
        | ret u =>
          obtain ⟨v6, σ6, H6, S6, r6, q6⟩ := hsp
          exact out S6 fun s7 J7 => ⟨_, _, _, J7, r6, q6⟩
end Lo
/-! B0: the text by places (written by genB0.py). -/
namespace Lo
open PySem L2
def topS (i : Nat) : Stmt := PySem.Challenge.pw_eightlots_k41_whole_what_long_rows_break.main.body.getD i (.Pass ⟨0, 0, 0, 0⟩)
abbrev sTupled : Stmt := topS 5
abbrev nTupled : List Str := ["thing", "part"]
theorem scTupled : FnScope nTupled ["thing"] (defScope sTupled) := ⟨rfl, rfl, rfl, by decide +kernel, rfl, by decide +kernel, by decide +kernel⟩
abbrev sIsNumber : Stmt := topS 6
abbrev nIsNumber : List Str := ["thing"]
theorem scIsNumber : FnScope nIsNumber ["thing"] (defScope sIsNumber) := ⟨rfl, rfl, rfl, by decide +kernel, rfl, by decide +kernel, by decide +kernel⟩
abbrev sIsCount : Stmt := topS 7
abbrev nIsCount : List Str := ["thing"]
theorem scIsCount : FnScope nIsCount ["thing"] (defScope sIsCount) := ⟨rfl, rfl, rfl, by decide +kernel, rfl, by decide +kernel, by decide +kernel⟩
abbrev sIsBelow : Stmt := topS 8
abbrev nIsBelow : List Str := ["thing", "many"]
theorem scIsBelow : FnScope nIsBelow ["thing", "many"] (defScope sIsBelow) := ⟨rfl, rfl, rfl, by decide +kernel, rfl, by decide +kernel, by decide +kernel⟩
abbrev sIsTupleOf : Stmt := topS 9
abbrev nIsTupleOf : List Str := ["thing", "size"]
theorem scIsTupleOf : FnScope nIsTupleOf ["thing", "size"] (defScope sIsTupleOf) := ⟨rfl, rfl, rfl, by decide +kernel, rfl, by decide +kernel, by decide +kernel⟩
abbrev sAscends : Stmt := topS 10
abbrev nAscends : List Str := ["thing", "near", "far"]
theorem scAscends : FnScope nAscends ["thing"] (defScope sAscends) := ⟨rfl, rfl, rfl, by decide +kernel, rfl, by decide +kernel, by decide +kernel⟩
abbrev sIsNumberSet : Stmt := topS 11
abbrev nIsNumberSet : List Str := ["thing", "many", "part"]
theorem scIsNumberSet : FnScope nIsNumberSet ["thing", "many"] (defScope sIsNumberSet) := ⟨rfl, rfl, rfl, by decide +kernel, rfl, by decide +kernel, by decide +kernel⟩
abbrev sIsRow : Stmt := topS 16
abbrev nIsRow : List Str := ["thing", "sign"]
theorem scIsRow : FnScope nIsRow ["thing"] (defScope sIsRow) := ⟨rfl, rfl, rfl, by decide +kernel, rfl, by decide +kernel, by decide +kernel⟩
abbrev sSignSum : Stmt := topS 17
abbrev nSignSum : List Str := ["signs", "found", "sign"]
theorem scSignSum : FnScope nSignSum ["signs"] (defScope sSignSum) := ⟨rfl, rfl, rfl, by decide +kernel, rfl, by decide +kernel, by decide +kernel⟩
abbrev sSignProduct : Stmt := topS 18
abbrev nSignProduct : List Str := ["one", "other"]
theorem scSignProduct : FnScope nSignProduct ["one", "other"] (defScope sSignProduct) := ⟨rfl, rfl, rfl, by decide +kernel, rfl, by decide +kernel, by decide +kernel⟩
abbrev sBegunWord : Stmt := topS 19
abbrev nBegunWord : List Str := ["one", "two", "three", "five", "six"]
theorem scBegunWord : FnScope nBegunWord ["one", "two", "three"] (defScope sBegunWord) := ⟨rfl, rfl, rfl, by decide +kernel, rfl, by decide +kernel, by decide +kernel⟩
abbrev sIsWord : Stmt := topS 20
abbrev nIsWord : List Str := ["thing"]
theorem scIsWord : FnScope nIsWord ["thing"] (defScope sIsWord) := ⟨rfl, rfl, rfl, by decide +kernel, rfl, by decide +kernel, by decide +kernel⟩
abbrev sColumnLamps : Stmt := topS 22
abbrev nColumnLamps : List Str := ["lot", "column", "lamp"]
theorem scColumnLamps : FnScope nColumnLamps ["lot", "column"] (defScope sColumnLamps) := ⟨rfl, rfl, rfl, by decide +kernel, rfl, by decide +kernel, by decide +kernel⟩
abbrev sColumnSigns : Stmt := topS 23
abbrev nColumnSigns : List Str := ["lot", "found", "lamp"]
theorem scColumnSigns : FnScope nColumnSigns ["lot"] (defScope sColumnSigns) := ⟨rfl, rfl, rfl, by decide +kernel, rfl, by decide +kernel, by decide +kernel⟩
abbrev sParities : Stmt := topS 24
abbrev nParities : List Str := ["lot", "columns", "column", "lamp"]
theorem scParities : FnScope nParities ["lot"] (defScope sParities) := ⟨rfl, rfl, rfl, by decide +kernel, rfl, by decide +kernel, by decide +kernel⟩
abbrev sIsRight : Stmt := topS 26
abbrev nIsRight : List Str := ["lot"]
theorem scIsRight : FnScope nIsRight ["lot"] (defScope sIsRight) := ⟨rfl, rfl, rfl, by decide +kernel, rfl, by decide +kernel, by decide +kernel⟩
abbrev sIsPlainRow : Stmt := topS 30
abbrev nIsPlainRow : List Str := ["thing", "own"]
theorem scIsPlainRow : FnScope nIsPlainRow ["thing"] (defScope sIsPlainRow) := ⟨rfl, rfl, rfl, by decide +kernel, rfl, by decide +kernel, by decide +kernel⟩
abbrev sSurePlainRow : Stmt := topS 31
abbrev nSurePlainRow : List Str := ["row", "own"]
theorem scSurePlainRow : FnScope nSurePlainRow ["row"] (defScope sSurePlainRow) := ⟨rfl, rfl, rfl, by decide +kernel, rfl, by decide +kernel, by decide +kernel⟩
abbrev sMixedPlace : Stmt := topS 32
abbrev nMixedPlace : List Str := ["row", "place", "own"]
theorem scMixedPlace : FnScope nMixedPlace ["row"] (defScope sMixedPlace) := ⟨rfl, rfl, rfl, by decide +kernel, rfl, by decide +kernel, by decide +kernel⟩
abbrev sOddHalves : Stmt := topS 33
abbrev nOddHalves : List Str := ["row", "place", "own"]
theorem scOddHalves : FnScope nOddHalves ["row"] (defScope sOddHalves) := ⟨rfl, rfl, rfl, by decide +kernel, rfl, by decide +kernel, by decide +kernel⟩
abbrev sRowBreak : Stmt := topS 34
abbrev nRowBreak : List Str := ["row", "place", "lot", "rest"]
theorem scRowBreak : FnScope nRowBreak ["row"] (defScope sRowBreak) := ⟨rfl, rfl, rfl, by decide +kernel, rfl, by decide +kernel, by decide +kernel⟩
abbrev sIsLong : Stmt := topS 35
abbrev nIsLong : List Str := ["thing"]
theorem scIsLong : FnScope nIsLong ["thing"] (defScope sIsLong) := ⟨rfl, rfl, rfl, by decide +kernel, rfl, by decide +kernel, by decide +kernel⟩
abbrev sSureLong : Stmt := topS 36
abbrev nSureLong : List Str := ["long", "own"]
theorem scSureLong : FnScope nSureLong ["long"] (defScope sSureLong) := ⟨rfl, rfl, rfl, by decide +kernel, rfl, by decide +kernel, by decide +kernel⟩
abbrev sOddLot : Stmt := topS 37
abbrev nOddLot : List Str := ["row", "own"]
theorem scOddLot : FnScope nOddLot ["row"] (defScope sOddLot) := ⟨rfl, rfl, rfl, by decide +kernel, rfl, by decide +kernel, by decide +kernel⟩
abbrev sRuleBroken : Stmt := topS 38
abbrev nRuleBroken : List Str := ["row", "found"]
theorem scRuleBroken : FnScope nRuleBroken ["row"] (defScope sRuleBroken) := ⟨rfl, rfl, rfl, by decide +kernel, rfl, by decide +kernel, by decide +kernel⟩
abbrev sIsBreak : Stmt := topS 39
abbrev nIsBreak : List Str := ["thing", "found"]
theorem scIsBreak : FnScope nIsBreak ["thing", "found"] (defScope sIsBreak) := ⟨rfl, rfl, rfl, by decide +kernel, rfl, by decide +kernel, by decide +kernel⟩
abbrev sIsRuleBroken : Stmt := topS 40
abbrev nIsRuleBroken : List Str := ["row", "thing"]
theorem scIsRuleBroken : FnScope nIsRuleBroken ["row", "thing"] (defScope sIsRuleBroken) := ⟨rfl, rfl, rfl, by decide +kernel, rfl, by decide +kernel, by decide +kernel⟩
abbrev sSquares : Stmt := topS 41
abbrev nSquares : List Str := ["row", "own"]
theorem scSquares : FnScope nSquares ["row"] (defScope sSquares) := ⟨rfl, rfl, rfl, by decide +kernel, rfl, by decide +kernel, by decide +kernel⟩
abbrev sTimes : Stmt := topS 42
abbrev nTimes : List Str := ["one", "other", "near", "far"]
theorem scTimes : FnScope nTimes ["one", "other"] (defScope sTimes) := ⟨rfl, rfl, rfl, by decide +kernel, rfl, by decide +kernel, by decide +kernel⟩
abbrev sLongLength : Stmt := topS 43
abbrev nLongLength : List Str := ["long"]
theorem scLongLength : FnScope nLongLength ["long"] (defScope sLongLength) := ⟨rfl, rfl, rfl, by decide +kernel, rfl, by decide +kernel, by decide +kernel⟩
abbrev sLongProduct : Stmt := topS 44
abbrev nLongProduct : List Str := ["one", "other", "near"]
theorem scLongProduct : FnScope nLongProduct ["one", "other"] (defScope sLongProduct) := ⟨rfl, rfl, rfl, by decide +kernel, rfl, by decide +kernel, by decide +kernel⟩
abbrev sLongSum : Stmt := topS 45
abbrev nLongSum : List Str := ["one", "other", "near", "own", "its"]
theorem scLongSum : FnScope nLongSum ["one", "other"] (defScope sLongSum) := ⟨rfl, rfl, rfl, by decide +kernel, rfl, by decide +kernel, by decide +kernel⟩
abbrev sContraryRow : Stmt := topS 46
abbrev nContraryRow : List Str := ["row", "own"]
theorem scContraryRow : FnScope nContraryRow ["row"] (defScope sContraryRow) := ⟨rfl, rfl, rfl, by decide +kernel, rfl, by decide +kernel, by decide +kernel⟩
abbrev sLongContrary : Stmt := topS 47
abbrev nLongContrary : List Str := ["long"]
theorem scLongContrary : FnScope nLongContrary ["long"] (defScope sLongContrary) := ⟨rfl, rfl, rfl, by decide +kernel, rfl, by decide +kernel, by decide +kernel⟩
abbrev sWithSigns : Stmt := topS 48
abbrev nWithSigns : List Str := ["row", "lot", "place", "own"]
theorem scWithSigns : FnScope nWithSigns ["row", "lot"] (defScope sWithSigns) := ⟨rfl, rfl, rfl, by decide +kernel, rfl, by decide +kernel, by decide +kernel⟩
abbrev sSignsTurned : Stmt := topS 49
abbrev nSignsTurned : List Str := ["long", "lot", "own", "told"]
theorem scSignsTurned : FnScope nSignsTurned ["long", "lot"] (defScope sSignsTurned) := ⟨rfl, rfl, rfl, by decide +kernel, rfl, by decide +kernel, by decide +kernel⟩
abbrev sHalvedRow : Stmt := topS 50
abbrev nHalvedRow : List Str := ["row", "own"]
theorem scHalvedRow : FnScope nHalvedRow ["row"] (defScope sHalvedRow) := ⟨rfl, rfl, rfl, by decide +kernel, rfl, by decide +kernel, by decide +kernel⟩
abbrev sHalfLong : Stmt := topS 51
abbrev nHalfLong : List Str := ["long", "own", "found"]
theorem scHalfLong : FnScope nHalfLong ["long"] (defScope sHalfLong) := ⟨rfl, rfl, rfl, by decide +kernel, rfl, by decide +kernel, by decide +kernel⟩
abbrev sShapeIn : Stmt := topS 52
abbrev nShapeIn : List Str := ["row", "own"]
theorem scShapeIn : FnScope nShapeIn ["row"] (defScope sShapeIn) := ⟨rfl, rfl, rfl, by decide +kernel, rfl, by decide +kernel, by decide +kernel⟩
abbrev sShapeOf : Stmt := topS 53
abbrev nShapeOf : List Str := ["long"]
theorem scShapeOf : FnScope nShapeOf ["long"] (defScope sShapeOf) := ⟨rfl, rfl, rfl, by decide +kernel, rfl, by decide +kernel, by decide +kernel⟩
abbrev sLawBox : Stmt := topS 55
abbrev nLawBox : List Str := ["_law_script", "_law_k", "_law_cell_so"]
theorem scLawBox : FnScope nLawBox ["_law_script", "_law_k"] (defScope sLawBox) := ⟨rfl, rfl, rfl, by decide +kernel, rfl, by decide +kernel, by decide +kernel⟩
abbrev sLawTake : Stmt := topS 56
abbrev nLawTake : List Str := ["_law_tin", "_law_below_so", "_law_draw_so", "_law_once_so", "_law_wide_so", "_law_twice_so"]
theorem scLawTake : FnScope nLawTake ["_law_tin", "_law_below_so"] (defScope sLawTake) := ⟨rfl, rfl, rfl, by decide +kernel, rfl, by decide +kernel, by decide +kernel⟩
abbrev sLawCells : Stmt := topS 57
abbrev nLawCells : List Str := ["_law_script", "_law_most_so", "_law_cells_so", "_law_k", "_law_cell_so", "_law_at_so"]
theorem scLawCells : FnScope nLawCells ["_law_script", "_law_most_so"] (defScope sLawCells) := ⟨rfl, rfl, rfl, by decide +kernel, rfl, by decide +kernel, by decide +kernel⟩
abbrev sLawOf : Stmt := topS 58
abbrev nLawOf : List Str := ["_law_tin", "_law_goods_so"]
theorem scLawOf : FnScope nLawOf ["_law_tin", "_law_goods_so"] (defScope sLawOf) := ⟨rfl, rfl, rfl, by decide +kernel, rfl, by decide +kernel, by decide +kernel⟩
abbrev sLawSame : Stmt := topS 59
abbrev nLawSame : List Str := ["_law_got", "_law_due", "_law_mine", "_law_its"]
theorem scLawSame : FnScope nLawSame ["_law_got", "_law_due"] (defScope sLawSame) := ⟨rfl, rfl, rfl, by decide +kernel, rfl, by decide +kernel, by decide +kernel⟩
abbrev sLawPut : Stmt := topS 60
abbrev nLawPut : List Str := ["_law_row_so", "_law_place_so", "_law_bit_so"]
theorem scLawPut : FnScope nLawPut ["_law_row_so", "_law_place_so", "_law_bit_so"] (defScope sLawPut) := ⟨rfl, rfl, rfl, by decide +kernel, rfl, by decide +kernel, by decide +kernel⟩
abbrev sLawSignsProduct : Stmt := topS 61
abbrev nLawSignsProduct : List Str := ["_law_one_so", "_law_two_so", "_law_found"]
theorem scLawSignsProduct : FnScope nLawSignsProduct ["_law_one_so", "_law_two_so"] (defScope sLawSignsProduct) := ⟨rfl, rfl, rfl, by decide +kernel, rfl, by decide +kernel, by decide +kernel⟩
abbrev sLawWordBy : Stmt := topS 62
abbrev nLawWordBy : List Str := ["_law_one_so", "_law_two_so", "_law_three_so", "_law_fourth_so", "_law_fifth_so", "_law_sixth_so"]
theorem scLawWordBy : FnScope nLawWordBy ["_law_one_so", "_law_two_so", "_law_three_so"] (defScope sLawWordBy) := ⟨rfl, rfl, rfl, by decide +kernel, rfl, by decide +kernel, by decide +kernel⟩
abbrev sLawSign : Stmt := topS 63
abbrev nLawSign : List Str := ["_law_lot_so", "_law_column_so", "_law_found", "_law_lamp_so"]
theorem scLawSign : FnScope nLawSign ["_law_lot_so", "_law_column_so"] (defScope sLawSign) := ⟨rfl, rfl, rfl, by decide +kernel, rfl, by decide +kernel, by decide +kernel⟩
abbrev sLawIsRight : Stmt := topS 64
abbrev nLawIsRight : List Str := ["_law_lot_so", "_law_tops_so", "_law_column_so", "_law_signs_so", "_law_own"]
theorem scLawIsRight : FnScope nLawIsRight ["_law_lot_so"] (defScope sLawIsRight) := ⟨rfl, rfl, rfl, by decide +kernel, rfl, by decide +kernel, by decide +kernel⟩
abbrev sLawBits : Stmt := topS 65
abbrev nLawBits : List Str := ["_law_lot_so", "_law_own"]
theorem scLawBits : FnScope nLawBits ["_law_lot_so"] (defScope sLawBits) := ⟨rfl, rfl, rfl, by decide +kernel, rfl, by decide +kernel, by decide +kernel⟩
abbrev sLawLot : Stmt := topS 66
abbrev nLawLot : List Str := ["_law_number_so", "_law_own"]
theorem scLawLot : FnScope nLawLot ["_law_number_so"] (defScope sLawLot) := ⟨rfl, rfl, rfl, by decide +kernel, rfl, by decide +kernel, by decide +kernel⟩
abbrev sLawLotSum : Stmt := topS 67
abbrev nLawLotSum : List Str := ["_law_one_so", "_law_two_so", "_law_own"]
theorem scLawLotSum : FnScope nLawLotSum ["_law_one_so", "_law_two_so"] (defScope sLawLotSum) := ⟨rfl, rfl, rfl, by decide +kernel, rfl, by decide +kernel, by decide +kernel⟩
abbrev sLawBase : Stmt := topS 68
abbrev nLawBase : List Str := ["_law_found", "_law_row_so", "_law_word_so", "_law_lot_so", "_law_column_so", "_law_sign_so", "_law_k", "_law_own"]
theorem scLawBase : FnScope nLawBase [] (defScope sLawBase) := ⟨rfl, rfl, rfl, by decide +kernel, rfl, by decide +kernel, by decide +kernel⟩
abbrev sLawTally : Stmt := topS 69
abbrev nLawTally : List Str := ["_law_found", "_law_lap", "_law_own"]
theorem scLawTally : FnScope nLawTally [] (defScope sLawTally) := ⟨rfl, rfl, rfl, by decide +kernel, rfl, by decide +kernel, by decide +kernel⟩
abbrev sLawRights : Stmt := topS 70
abbrev nLawRights : List Str := ["_law_found", "_law_lot_so", "_law_bits_so", "_law_own"]
theorem scLawRights : FnScope nLawRights [] (defScope sLawRights) := ⟨rfl, rfl, rfl, by decide +kernel, rfl, by decide +kernel, by decide +kernel⟩
abbrev sLawBoard : Stmt := topS 71
abbrev nLawBoard : List Str := ["_law_rights_so", "_law_tally_so", "_law_own"]
theorem scLawBoard : FnScope nLawBoard [] (defScope sLawBoard) := ⟨rfl, rfl, rfl, by decide +kernel, rfl, by decide +kernel, by decide +kernel⟩
abbrev sLawLength : Stmt := topS 72
abbrev nLawLength : List Str := ["_law_row_so", "_law_own"]
theorem scLawLength : FnScope nLawLength ["_law_row_so"] (defScope sLawLength) := ⟨rfl, rfl, rfl, by decide +kernel, rfl, by decide +kernel, by decide +kernel⟩
abbrev sLawLongProduct : Stmt := topS 73
abbrev nLawLongProduct : List Str := ["_law_one_so", "_law_two_so", "_law_near_so", "_law_far_so"]
theorem scLawLongProduct : FnScope nLawLongProduct ["_law_one_so", "_law_two_so"] (defScope sLawLongProduct) := ⟨rfl, rfl, rfl, by decide +kernel, rfl, by decide +kernel, by decide +kernel⟩
abbrev sLawSomeLong : Stmt := topS 74
abbrev nLawSomeLong : List Str := ["_law_tin", "_law_board_so", "_law_lot_so", "_law_m_so", "_law_found", "_law_place_so", "_law_k"]
theorem scLawSomeLong : FnScope nLawSomeLong ["_law_tin", "_law_board_so"] (defScope sLawSomeLong) := ⟨rfl, rfl, rfl, by decide +kernel, rfl, by decide +kernel, by decide +kernel⟩
abbrev sLawBreak : Stmt := topS 75
abbrev nLawBreak : List Str := ["_law_row_so", "_law_m_so", "_law_place_so", "_law_own", "_law_lot_so", "_law_rest_so", "_law_k"]
theorem scLawBreak : FnScope nLawBreak ["_law_row_so"] (defScope sLawBreak) := ⟨rfl, rfl, rfl, by decide +kernel, rfl, by decide +kernel, by decide +kernel⟩
abbrev sLawHeard : Stmt := topS 76
abbrev nLawHeard : List Str := ["_law_door", "_law_row_so", "error"]
theorem scLawHeard : FnScope nLawHeard ["_law_door", "_law_row_so"] (defScope sLawHeard) := ⟨rfl, rfl, rfl, by decide +kernel, rfl, by decide +kernel, by decide +kernel⟩
abbrev sLawOdd : Stmt := topS 77
abbrev nLawOdd : List Str := ["_law_row_so", "_law_m_so", "_law_own", "_law_k"]
theorem scLawOdd : FnScope nLawOdd ["_law_row_so"] (defScope sLawOdd) := ⟨rfl, rfl, rfl, by decide +kernel, rfl, by decide +kernel, by decide +kernel⟩
abbrev sLawRowRight : Stmt := topS 78
abbrev nLawRowRight : List Str := ["_law_row_so", "_law_due", "_law_lot_so", "_law_got", "_law_things_so", "_law_own"]
theorem scLawRowRight : FnScope nLawRowRight ["_law_row_so"] (defScope sLawRowRight) := ⟨rfl, rfl, rfl, by decide +kernel, rfl, by decide +kernel, by decide +kernel⟩
abbrev sLawByHandRight : Stmt := topS 79
abbrev nLawByHandRight : List Str := ["_law_rows_so", "_law_due", "_law_own"]
theorem scLawByHandRight : FnScope nLawByHandRight [] (defScope sLawByHandRight) := ⟨rfl, rfl, rfl, by decide +kernel, rfl, by decide +kernel, by decide +kernel⟩
abbrev sLawRight : Stmt := topS 80
abbrev nLawRight : List Str := ["_law_tin", "_law_board_so", "_law_one_so", "_law_two_so", "_law_place_so", "_law_lots_so", "_law_bent_so", "_law_rows_so", "_law_both_so", "_law_got", "_law_due", "_law_turned_so", "_law_twice_so", "_law_halves_so", "_law_fine_so", "_law_lap", "_law_own", "_law_near_so", "_law_far_so", "_law_k"]
theorem scLawRight : FnScope nLawRight ["_law_tin"] (defScope sLawRight) := ⟨rfl, rfl, rfl, by decide +kernel, rfl, by decide +kernel, by decide +kernel⟩
abbrev sLaw : Stmt := topS 81
abbrev nLaw : List Str := ["_law_script"]
theorem scLaw : FnScope nLaw ["_law_script"] (defScope sLaw) := ⟨rfl, rfl, rfl, by decide +kernel, rfl, by decide +kernel, by decide +kernel⟩
end Lo
/-! C0: short words: a def that stands and keeps its promise, built-ins by name. -/
namespace Lo
open PySem PySem.Spec L2 Evl PyProof.Rows

/-- a def of the text, by its name -/
structure FunM (K : PySem.W.Frag) (mg : Str → Option Value) (x : Str) (st : Stmt) : Prop where
  ex : ∃ f fd, Fun K x x st f fd ∧ mg x = some (.ref f)
/-- .. keeps the promise sp -/
structure Dfn (P : Program) (w : World) (K : PySem.W.Frag) (mg : Str → Option Value) (base : Heap) (CX : CXT) (k : Nat) (x : Str) (ps : List Str) (sp : Sp) : Prop where
  ex : ∃ f fd, FnOk P w K mg base CX k f fd ps sp ∧ mg x = some (.ref f) ∧ PySem.W.keepIn K (.ref f) = true ∧ Binds K fd ps []
theorem Dfn.mono {P : Program} {w : World} {K : PySem.W.Frag} {mg : Str → Option Value} {base : Heap} {CX : CXT} {j k : Nat} {x : Str} {ps : List Str} {sp : Sp} (d : Dfn P w K mg base CX j x ps sp) (h : j ≤ k) : Dfn P w K mg base CX k x ps sp := by
  obtain ⟨f, fd, F, r⟩ := d.ex
  exact ⟨f, fd, F.mono h, r⟩
theorem Dfn.imp {P : Program} {w : World} {K : PySem.W.Frag} {mg : Str → Option Value} {base : Heap} {CX : CXT} {k : Nat} {x : Str} {ps : List Str} {sp sp' : Sp} (d : Dfn P w K mg base CX k x ps sp) (h : ∀ vs H Q E, sp' vs H Q E → sp vs H Q E) : Dfn P w K mg base CX k x ps sp' := by
  obtain ⟨f, fd, F, r⟩ := d.ex
  exact ⟨f, fd, F.imp h, r⟩
theorem spD_imp {K : PySem.W.Frag} {R R' : List PyData → PyData → Prop} (h : ∀ ds d, R' ds d → R ds d) : ∀ vs H Q E, spD K R' vs H Q E → spD K R vs H Q E :=
  fun _ _ _ _ ⟨A, ds, d, e, a, r, q⟩ => ⟨A, ds, d, e, a, h ds d r, q⟩
/-- how the arguments of a def without defaults come to its parameters -/
def BindsBy (x : Str) (st : Stmt) (ps : List Str) : Prop := ∀ (kV doc pm : Value) (an : Option Addr) (cdv ct : Value) (us : List Value), us.length = ps.length →
  bindArgs (PySem.W.fnOf x x (defArgs st) (defBody st) (defScope st) .none kV doc pm an cdv ct) ⟨us, []⟩ = pure (ps.zip us)
section
variable {P : Program} {w : World} {K : PySem.W.Frag} {mg : Str → Option Value} {base : Heap} {x : Str} {st : Stmt} {N ps : List Str} {k : Nat} {R : List PyData → PyData → Prop} {sp : Sp}
/-- a pure def, by its body -/
theorem dfn_of (F : FunM K mg x st) (S : FnScope N ps (defScope st)) (hb : BindsBy x st ps) (len : ∀ ds d, R ds d → ds.length = ps.length)
    (hbody : ∀ (f : Addr) (cdv : Value) (A : Around) (outer : List Env) (s : Shared) (H : Hp) (E : XK), Room k (A.deeper (envOfC x (defScope st) s.heap.objs.size f cdv)) → ∀ ds d, R ds d →
      ∃ t, PSs (cxOf CX0 P w K mg base N x (defScope st) f cdv A outer s H E).nox (defBody st) t ∧ StD K t (ds.map some ++ List.replicate (N.length - ds.length) none) (.ret d)) : Dfn P w K mg base CX0 (k + 1) x ps (spD K R) := by
  obtain ⟨f, fd, F1, hm⟩ := F.ex
  refine ⟨f, fd, F1.ok S (fun vs H Q E h => ?_) (fun cdv A outer s H vs Q E hr h => ?_), hm, F1.kp, F1.binds hb⟩
  · obtain ⟨A, ds, d, _, ha, hR, _⟩ := h
    rw [ha.len]
    exact len ds d hR
  · obtain ⟨A', ds, d, rfl, ha, hR, q⟩ := h
    obtain ⟨t, ht, hs⟩ := hbody f cdv A outer s A'.h E hr ds d hR
    exact ⟨t, ht, hs _ A' (KnS.start ha) _ q⟩
/-- a def by its body and a promise of any form -/
theorem dfn_raw (F : FunM K mg x st) (S : FnScope N ps (defScope st)) (hb : BindsBy x st ps) (len : ∀ vs H Q E, sp vs H Q E → vs.length = ps.length)
    (hbody : ∀ (f : Addr) (cdv : Value) (A : Around) (outer : List Env) (s : Shared) (H : Hp) (vs : List V) (Q : VK) (E : XK), Room k (A.deeper (envOfC x (defScope st) s.heap.objs.size f cdv)) → sp vs H Q E →
      ∃ t, PSs (cxOf CX0 P w K mg base N x (defScope st) f cdv A outer s H E).nox (defBody st) t ∧ t { nx := fun _ H' => Q .non H', rt := Q } (L2.start N vs) H) : Dfn P w K mg base CX0 (k + 1) x ps sp := by
  obtain ⟨f, fd, F1, hm⟩ := F.ex
  exact ⟨f, fd, F1.ok S len (fun cdv A outer s H vs Q E hr h => hbody f cdv A outer s H vs Q E hr h), hm, F1.kp, F1.binds hb⟩
end
section
variable {X : Cx} {k : Nat} {x : Str} {ps : List Str} {sp : Sp} {e a b : Expr} {es : List Expr} {t : TA} {ta tb : TE} {p pos p2 p3 p4 : Pos}
/-- f(e, ..) -/
theorem pc (d : Dfn X.prog X.w X.K X.mg X.base CX0 k x ps sp) (hr : Room k X.A) (ha : PA X (e :: es) t) (hg : Gl X x := by rfl) (hdb : (x == ("__debug__" : Str)) = false := by decide)
    (he : starEach (e :: es) X.env = (false, eval e X.env) :: starEach es X.env := by rfl) (hpl : (backTo pos (starEach es X.env)).any (·.1) = false := by rfl) : PE X (.Call (.Name x p) (e :: es) [] pos) (tCall sp [] E0 t) := by
  obtain ⟨f, fd, F, hm, hk, hb⟩ := d.ex
  exact pe_call F hr hg hm hk hb .nil pass0 ha hdb he hpl
theorem pc0 (d : Dfn X.prog X.w X.K X.mg X.base CX0 k x ps sp) (hr : Room k X.A) (hg : Gl X x := by rfl) (hdb : (x == ("__debug__" : Str)) = false := by decide) : PE X (.Call (.Name x p) [] [] pos) (tCall sp [] E0 tNil) := by
  obtain ⟨f, fd, F, hm, hk, hb⟩ := d.ex
  exact pe_call0 F hr hg hm hk hb .nil pass0 hdb
/-- the built-ins are what they are -/
structure Blt (mg : Str → Option Value) : Prop where
  isi : mg "isinstance" = none
  int : mg "int" = none
  bool : mg "bool" = none
  tuple : mg "tuple" = none
  list : mg "list" = none
  str : mg "str" = none
  len : mg "len" = none
  all : mg "all" = none
  zip : mg "zip" = none
  range : mg "range" = none
  enum : mg "enumerate" = none
  set : mg "set" = none
  sum : mg "sum" = none
  max : mg "max" = none
  abs : mg "abs" = none
  ve : mg "ValueError" = none
variable (T : Blt X.mg)
include T
theorem cInt (hg : Gl X "int" := by rfl) : PE X (.Name "int" pos) (tC (.ty "int")) := pe_bltn hg T.int (by decide +kernel) rfl
theorem cBool (hg : Gl X "bool" := by rfl) : PE X (.Name "bool" pos) (tC (.ty "bool")) := pe_bltn hg T.bool (by decide +kernel) rfl
theorem cTuple (hg : Gl X "tuple" := by rfl) : PE X (.Name "tuple" pos) (tC (.ty "tuple")) := pe_bltn hg T.tuple (by decide +kernel) rfl
theorem cList (hg : Gl X "list" := by rfl) : PE X (.Name "list" pos) (tC (.ty "list")) := pe_bltn hg T.list (by decide +kernel) rfl
theorem cStr (hg : Gl X "str" := by rfl) : PE X (.Name "str" pos) (tC (.ty "str")) := pe_bltn hg T.str (by decide +kernel) rfl
theorem pIsi (ha : PE X a ta) (hb : PE X b tb) (hg : Gl X "isinstance" := by rfl) (h1 : starEach [a, b] X.env = (false, eval a X.env) :: starEach [b] X.env := by rfl) (h2 : starEach [b] X.env = (false, eval b X.env) :: starEach [] X.env := by rfl)
    (hpl : (backTo pos (starEach [b] X.env)).any (·.1) = false := by rfl) : PE X (.Call (.Name "isinstance" p) [a, b] [] pos) (tCB (rIsi X.K) (tCons ta (tCons tb tNil))) :=
  pe_callB call_isi hg T.isi PyProof.Rows.boot_isinstance (pa_cons ha (pa_cons hb pa_nil h2) h1) (by decide) (by decide) h1 hpl
theorem pIsiT (ha : PE X a ta) (hb : PE X b tb) (hg : Gl X "isinstance" := by rfl) (h1 : starEach [a, b] X.env = (false, eval a X.env) :: starEach [b] X.env := by rfl) (h2 : starEach [b] X.env = (false, eval b X.env) :: starEach [] X.env := by rfl)
    (hpl : (backTo pos (starEach [b] X.env)).any (·.1) = false := by rfl) : PE X (.Call (.Name "isinstance" p) [a, b] [] pos) (tCB (rIsiT X.K) (tCons ta (tCons tb tNil))) :=
  pe_callB call_isiT hg T.isi PyProof.Rows.boot_isinstance (pa_cons ha (pa_cons hb pa_nil h2) h1) (by decide) (by decide) h1 hpl
variable {r : List V → Hp → VK → Prop}
theorem pLen (ha : PE X a ta) (hg : Gl X "len" := by rfl) (h1 : starEach [a] X.env = (false, eval a X.env) :: starEach [] X.env := by rfl) : PE X (.Call (.Name "len" p) [a] [] pos) (tCB (fun xs H Q => ∃ p ys, xs = [.ref p] ∧ (SqL X.K H p ys ∨ SqT X.K H p ys) ∧ Q (.int ys.length) H) (tCons ta tNil)) :=
  pe_callB call_len_seq hg T.len PySem.boot_len (pa_cons ha pa_nil h1) (by decide) (by decide) h1
theorem pTup (ha : PE X a ta) (hg : Gl X "tuple" := by rfl) (h1 : starEach [a] X.env = (false, eval a X.env) :: starEach [] X.env := by rfl) :
    PE X (.Call (.Name "tuple" p) [a] [] pos) (tCB (fun xs H Q => ∃ p ys, xs = [.ref p] ∧ ((SqL X.K H p ys ∧ ∀ l, H l = none → Q (.ref l) (upd H l (.tup ys))) ∨ (SqT X.K H p ys ∧ Q (.ref p) H))) (tCons ta tNil)) :=
  pe_callTy call_tuple_of hg T.tuple (by decide +kernel) (pa_cons ha pa_nil h1) (by decide) (by decide) h1
theorem pLst (ha : PE X a ta) (hg : Gl X "list" := by rfl) (h1 : starEach [a] X.env = (false, eval a X.env) :: starEach [] X.env := by rfl) :
    PE X (.Call (.Name "list" p) [a] [] pos) (tCB (fun xs H Q => ∃ p ys, xs = [.ref p] ∧ (SqL X.K H p ys ∨ SqT X.K H p ys) ∧ ∀ l, H l = none → Q (.ref l) (upd H l (.lst ys))) (tCons ta tNil)) :=
  pe_callTy call_list_of hg T.list (by decide +kernel) (pa_cons ha pa_nil h1) (by decide) (by decide) h1
theorem pInt (ha : PE X a ta) (hg : Gl X "int" := by rfl) (h1 : starEach [a] X.env = (false, eval a X.env) :: starEach [] X.env := by rfl) :
    PE X (.Call (.Name "int" p) [a] [] pos) (tCB (fun xs H Q => (∃ i, xs = [.int i] ∧ Q (.int i) H) ∨ ∃ k, xs = [.bl k] ∧ Q (.int (if k then 1 else 0)) H) (tCons ta tNil)) :=
  pe_callTy call_int1 hg T.int (by decide +kernel) (pa_cons ha pa_nil h1) (by decide) (by decide) h1
theorem pAbs (ha : PE X a ta) (hg : Gl X "abs" := by rfl) (h1 : starEach [a] X.env = (false, eval a X.env) :: starEach [] X.env := by rfl) :
    PE X (.Call (.Name "abs" p) [a] [] pos) (tCB (fun xs H Q => ∃ i, xs = [.int i] ∧ Q (.int (if i < 0 then -i else i)) H) (tCons ta tNil)) :=
  pe_callB call_abs hg T.abs PyProof.Rows.boot_abs (pa_cons ha pa_nil h1) (by decide) (by decide) h1
theorem pAll (hc : X.calm = true) (ha : PE X a ta) (hg : Gl X "all" := by rfl) (h1 : starEach [a] X.env = (false, eval a X.env) :: starEach [] X.env := by rfl) : PE X (.Call (.Name "all" p) [a] [] pos) (tCB (rAll X.K) (tCons ta tNil)) :=
  pe_callB (cr_all hc) hg T.all PyProof.Rows.boot_all (pa_cons ha pa_nil h1) (by decide) (by decide) h1
theorem pSum (hc : X.calm = true) (ha : PE X a ta) (hg : Gl X "sum" := by rfl) (h1 : starEach [a] X.env = (false, eval a X.env) :: starEach [] X.env := by rfl) : PE X (.Call (.Name "sum" p) [a] [] pos) (tCB (rSum X.K) (tCons ta tNil)) :=
  pe_callB (cr_sum hc) hg T.sum PyProof.Rows.boot_sum (pa_cons ha pa_nil h1) (by decide) (by decide) h1
theorem pMax (hc : X.calm = true) (ha : PE X a ta) (hg : Gl X "max" := by rfl) (h1 : starEach [a] X.env = (false, eval a X.env) :: starEach [] X.env := by rfl) : PE X (.Call (.Name "max" p) [a] [] pos) (tCB (rMax X.K) (tCons ta tNil)) :=
  pe_callB (cr_max hc) hg T.max PyProof.Rows.boot_max (pa_cons ha pa_nil h1) (by decide) (by decide) h1
end
end Lo
/-! D1: plain.py. -/
namespace Lo
open PySem PySem.Spec L2 Evl PyProof.Rows

/-! ### what isinstance says -/
def noDict : PyData → Bool
  | .dict _ => false
  | _ => true
def isTu : PyData → Bool
  | .tuple _ => true
  | _ => false
def isLi : PyData → Bool
  | .list _ => true
  | _ => false
def isBo : PyData → Bool
  | .bool _ => true
  | _ => false
def isSt : PyData → Bool
  | .str _ => true
  | _ => false
def isIn : PyData → Bool
  | .int _ => true
  | .bool _ => true
  | _ => false
theorem kTu : ∀ d : PyData, noDict d = true → kitB (tyD d) "tuple" = some (isTu d)
  | .none, _ => (by decide +kernel : kitB "NoneType" "tuple" = some false)
  | .bool _, _ => (by decide +kernel : kitB "bool" "tuple" = some false)
  | .int _, _ => (by decide +kernel : kitB "int" "tuple" = some false)
  | .str _, _ => (by decide +kernel : kitB "str" "tuple" = some false)
  | .list _, _ => (by decide +kernel : kitB "list" "tuple" = some false)
  | .tuple _, _ => (by decide +kernel : kitB "tuple" "tuple" = some true)
theorem kLi : ∀ d : PyData, noDict d = true → kitB (tyD d) "list" = some (isLi d)
  | .none, _ => (by decide +kernel : kitB "NoneType" "list" = some false)
  | .bool _, _ => (by decide +kernel : kitB "bool" "list" = some false)
  | .int _, _ => (by decide +kernel : kitB "int" "list" = some false)
  | .str _, _ => (by decide +kernel : kitB "str" "list" = some false)
  | .list _, _ => (by decide +kernel : kitB "list" "list" = some true)
  | .tuple _, _ => (by decide +kernel : kitB "tuple" "list" = some false)
theorem kBo : ∀ d : PyData, noDict d = true → kitB (tyD d) "bool" = some (isBo d)
  | .none, _ => (by decide +kernel : kitB "NoneType" "bool" = some false)
  | .bool _, _ => (by decide +kernel : kitB "bool" "bool" = some true)
  | .int _, _ => (by decide +kernel : kitB "int" "bool" = some false)
  | .str _, _ => (by decide +kernel : kitB "str" "bool" = some false)
  | .list _, _ => (by decide +kernel : kitB "list" "bool" = some false)
  | .tuple _, _ => (by decide +kernel : kitB "tuple" "bool" = some false)
theorem kSt : ∀ d : PyData, noDict d = true → kitB (tyD d) "str" = some (isSt d)
  | .none, _ => (by decide +kernel : kitB "NoneType" "str" = some false)
  | .bool _, _ => (by decide +kernel : kitB "bool" "str" = some false)
  | .int _, _ => (by decide +kernel : kitB "int" "str" = some false)
  | .str _, _ => (by decide +kernel : kitB "str" "str" = some true)
  | .list _, _ => (by decide +kernel : kitB "list" "str" = some false)
  | .tuple _, _ => (by decide +kernel : kitB "tuple" "str" = some false)
theorem kIn : ∀ d : PyData, noDict d = true → kitB (tyD d) "int" = some (isIn d)
  | .none, _ => (by decide +kernel : kitB "NoneType" "int" = some false)
  | .bool _, _ => (by decide +kernel : kitB "bool" "int" = some true)
  | .int _, _ => (by decide +kernel : kitB "int" "int" = some true)
  | .str _, _ => (by decide +kernel : kitB "str" "int" = some false)
  | .list _, _ => (by decide +kernel : kitB "list" "int" = some false)
  | .tuple _, _ => (by decide +kernel : kitB "tuple" "int" = some false)

/-! ### sources of ints -/
section
variable {K : PySem.W.Frag} {δ δ' : De} {ds : List PyData} {ta te tl : TE} {tt : TT} {ns ms : List Int}
theorem SrcD.congr {wi : TI} {g : TG} {n : Nat} {ε ε' : Nat → List (Nat × PyData)} (h : SrcD K wi g δ n ε) (e : ∀ i, i < n → ε i = ε' i) : SrcD K wi g δ n ε' := fun σ A k R q =>
  h σ A k R fun J B e1 h1 h2 h3 => q J B e1 h1 h2 fun i C x H'' hi e2 y => by
    rw [← e i hi]
    exact h3 i C x H'' hi e2 y
theorem getD_ints {i : Nat} (h : i < ns.length) : (ns.map PyData.int).getD i .none = .int (ns.getD i 0) := by
  rw [List.getD_eq_getElem?_getD, List.getD_eq_getElem?_getD, List.getElem?_map, List.getElem?_eq_getElem h]
  rfl
theorem w_tupI {n : Nat} (h : EvD K tl δ (ti ns)) : SrcD K (iTup K tl) (gName n) δ ns.length (fun i => [(n, .int (ns.getD i 0))]) := by
  have z := w_tup (n := n) h
  rw [List.length_map] at z
  exact z.congr fun i hi => by rw [getD_ints hi]
theorem w_listI {n : Nat} (h : EvD K tl δ (li ns)) : SrcD K (iList K tl) (gName n) δ ns.length (fun i => [(n, .int (ns.getD i 0))]) := by
  have z := w_list (n := n) h
  rw [List.length_map] at z
  exact z.congr fun i hi => by rw [getD_ints hi]
theorem w_zipI {t : TA} {m n : Nat} (h : EvDA K t δ [ti ns, ti ms]) : SrcD K (RZ.iZipA K t) (gTup K 2 (gCons (gName m) (gCons (gName n) gNil))) δ (min ns.length ms.length) (fun i => [(m, .int (ns.getD i 0)), (n, .int (ms.getD i 0))]) := by
  have z := w_zipT (m := m) (n := n) h
  rw [List.length_map, List.length_map] at z
  exact z.congr fun i hi => by rw [getD_ints (by omega), getD_ints (by omega)]
theorem w_enumI {t : TA} {m n : Nat} (h : EvDA K t δ [ti ns]) : SrcD K (iEnumT K t) (gTup K 2 (gCons (gName m) (gCons (gName n) gNil))) δ ns.length (fun i => [(m, .int (i : Nat)), (n, .int (ns.getD i 0))]) := by
  have z := w_enumT (m := m) (n := n) h
  rw [List.length_map] at z
  exact z.congr fun i hi => by rw [getD_ints hi]
/-- all of a list of tests -/
theorem range_map_getD {α : Type} (f : Int → α) : ∀ ns : List Int, (List.range ns.length).map (fun i => f (ns.getD i 0)) = ns.map f
  | [] => rfl
  | n :: r => by
    rw [List.length_cons, List.range_succ_eq_map, List.map_cons, List.map_map, List.map_cons, ← range_map_getD f r]
    rfl
theorem given_all {n : Nat} {val : Nat → PyData} : givenD n (fun _ => true) val = (List.range n).map val := by
  unfold givenD
  rw [List.filter_eq_self.mpr (fun _ _ => rfl)]
end

section
variable {P : Program} {w : World} {K : PySem.W.Frag} {mg : Str → Option Value} {base : Heap}
def RIsNumber (ds : List PyData) (d : PyData) : Prop := ∃ i : Int, ds = [.int i] ∧ d = .bool true
theorem ok_is_number (F : FunM K mg "is_number" sIsNumber) (T : Blt mg) : Dfn P w K mg base CX0 1 "is_number" ["thing"] (spD K RIsNumber) := by
  refine dfn_of F scIsNumber (fun _ _ _ _ _ _ us hl => match us, hl with | [_], _ => rfl) (fun ds d ⟨_, h, _⟩ => by rw [h]; rfl) ?_
  rintro f cdv A outer s H E hr ds d ⟨i, rfl, rfl⟩
  refine ⟨_, pss_one (ps_ret (pe_and (pIsi T (pv 0) (cInt T)) (pe_one (pe_not (pIsi T (pv 0) (cBool T)))))), ?_⟩
  exact s_ret (d_andV (b := true) (c := true) (d_isi (d_var rfl) (kIn (.int i) rfl)) fun _ => d_notV (b := false) (d_isi (d_var rfl) (kBo (.int i) rfl)))
def RIsCount (ds : List PyData) (d : PyData) : Prop := ∃ i : Int, ds = [.int i] ∧ d = .bool (decide (0 ≤ i))
theorem ok_is_count (F : FunM K mg "is_count" sIsCount) (G : Dfn P w K mg base CX0 1 "is_number" ["thing"] (spD K RIsNumber)) : Dfn P w K mg base CX0 2 "is_count" ["thing"] (spD K RIsCount) := by
  refine dfn_of F scIsCount (fun _ _ _ _ _ _ us hl => match us, hl with | [_], _ => rfl) (fun ds d ⟨_, h, _⟩ => by rw [h]; rfl) ?_
  rintro f cdv A outer s H E hr ds d ⟨i, rfl, rfl⟩
  refine ⟨_, pss_one (ps_ret (pe_and (pc G hr (pa_cons (pv 0) pa_nil)) (pe_one (pe_cmpR op_ge (pv 0) pe_int (nomark _))))), ?_⟩
  exact s_ret (d_andV (b := true) (d_call (da_cons (d_var rfl) da_nil) ⟨i, rfl, rfl⟩) fun _ => d_op (d_var rfl) d_int rd_cmp)
def below (i m : Int) : Bool := decide (0 ≤ i) && decide (i < m)
def RIsBelow (ds : List PyData) (d : PyData) : Prop := ∃ i m : Int, ds = [.int i, .int m] ∧ d = .bool (below i m)
theorem ok_is_below (F : FunM K mg "is_below" sIsBelow) (G : Dfn P w K mg base CX0 2 "is_count" ["thing"] (spD K RIsCount)) : Dfn P w K mg base CX0 3 "is_below" ["thing", "many"] (spD K RIsBelow) := by
  refine dfn_of F scIsBelow (fun _ _ _ _ _ _ us hl => match us, hl with | [_, _], _ => rfl) (fun ds d ⟨_, _, h, _⟩ => by rw [h]; rfl) ?_
  rintro f cdv A outer s H E hr ds d ⟨i, m, rfl, rfl⟩
  refine ⟨_, pss_one (ps_ret (pe_and (pc G hr (pa_cons (pv 0) pa_nil)) (pe_one (pe_cmpR op_lt (pv 0) (pv 1) (nomark _))))), ?_⟩
  exact s_ret (d_andV (d_call (da_cons (d_var rfl) da_nil) ⟨i, rfl, rfl⟩) fun _ => d_op (d_var rfl) (d_var rfl) rd_cmp)
def tupOf (n : Int) : PyData → Bool
  | .tuple xs => decide ((xs.length : Int) = n)
  | _ => false
def RIsTupleOf (ds : List PyData) (d : PyData) : Prop := ∃ (x : PyData) (n : Int), noDict x = true ∧ ds = [x, .int n] ∧ d = .bool (tupOf n x)
theorem ok_is_tuple_of (F : FunM K mg "is_tuple_of" sIsTupleOf) (T : Blt mg) : Dfn P w K mg base CX0 1 "is_tuple_of" ["thing", "size"] (spD K RIsTupleOf) := by
  refine dfn_of F scIsTupleOf (fun _ _ _ _ _ _ us hl => match us, hl with | [_, _], _ => rfl) (fun ds d ⟨_, _, _, h, _⟩ => by rw [h]; rfl) ?_
  rintro f cdv A outer s H E hr ds d ⟨x, n, nd, rfl, rfl⟩
  refine ⟨_, pss_one (ps_ret (pe_and (pIsi T (pv 0) (cTuple T)) (pe_one (pe_cmpR (op_eqD hr.units) (pLen T (pv 0)) (pv 1) (nomark _))))), ?_⟩
  refine s_ret (EvD.to (d_andV (c := tupOf n x) (d_isi (d_var rfl) (kTu x nd)) fun h => ?_) ?_)
  · cases x with
    | tuple xs => exact (d_op (d_cb (da_cons (d_var rfl) da_nil) rc_len) (d_var rfl) (rd_eq rfl rfl)).to (by
        show PyData.bool (((xs.length : Nat) : Int) == n) = .bool (decide (((xs.length : Nat) : Int) = n))
        rw [Bool.beq_eq_decide_eq])
    | _ => cases h
  · cases x <;> rfl
end
end Lo
/-! D2: plain.py: ascends, is_number_set, tupled. -/
namespace Lo
open PySem PySem.Spec L2 Evl PyProof.Rows

theorem pe_nv {X : Cx} {e : Expr} : PE X e (fun _ _ _ => False) := ⟨fun _ _ _ _ _ _ h => h.elim⟩
theorem cut_tail (ns : List Int) : cutD (ns.map PyData.int) (some 1) none = (ns.drop 1).map PyData.int := by
  unfold cutD
  have e : HT.sIx (ns.map PyData.int).length 0 (some 1) = min 1 ns.length := by
    rw [show (1 : Int) = ((1 : Nat) : Int) from rfl, HT.sIx_nat, List.length_map]
  rw [e, HT.sIx_none, List.length_map]
  cases ns with
  | nil => rfl
  | cons n r =>
    have e2 : min 1 (n :: r).length = 1 := by
      rw [List.length_cons]
      omega
    rw [e2]
    show List.take _ (r.map PyData.int) = r.map PyData.int
    rw [List.take_of_length_le]
    rw [List.length_map, List.length_cons]
    omega
theorem getD_drop1 (ns : List Int) (i : Nat) : (ns.drop 1).getD i 0 = ns.getD (i + 1) 0 := by
  rw [List.getD_eq_getElem?_getD, List.getD_eq_getElem?_getD, List.getElem?_drop, Nat.add_comm]
def asc (ns : List Int) : Bool := (List.range (ns.length - 1)).all fun i => decide (ns.getD i 0 < ns.getD (i + 1) 0)
theorem bools_of {n : Nat} (f : Nat → Bool) : (List.range n).map (fun i => PyData.bool (f i)) = ((List.range n).map f).map PyData.bool := by
  rw [List.map_map]
  rfl
theorem all_id {n : Nat} (f : Nat → Bool) : ((List.range n).map f).all id = (List.range n).all f := by
  rw [List.all_map]
  rfl
/-- all([test for ..]) -/
theorem d_all {K : PySem.W.Frag} {δ : De} {te : TE} {n : Nat} {f : Nat → Bool} (h : EvD K te δ (.list (givenD n (fun _ => true) fun i => .bool (f i)))) : EvD K (tCB (rAll K) (tCons te tNil)) δ (.bool ((List.range n).all f)) := by
  rw [given_all, bools_of] at h
  rw [← all_id]
  exact d_cb (da_cons h da_nil) rc_all

section
variable {P : Program} {w : World} {K : PySem.W.Frag} {mg : Str → Option Value} {base : Heap}
def RAscends (ds : List PyData) (d : PyData) : Prop := ∃ ns : List Int, ns.length ≤ 1000 ∧ ds = [ti ns] ∧ d = .bool (asc ns)
theorem ok_ascends (F : FunM K mg "ascends" sAscends) (T : Blt mg) : Dfn P w K mg base CX0 1 "ascends" ["thing"] (spD K RAscends) := by
  refine dfn_of F scAscends (fun _ _ _ _ _ _ us hl => match us, hl with | [_], _ => rfl) (fun ds d ⟨_, _, h, _⟩ => by rw [h]; rfl) ?_
  rintro f cdv A outer s H E hr ds d ⟨ns, hl, rfl, rfl⟩
  refine ⟨_, pss_one (ps_ret (pAll T rfl (pe_lc (own := [("near", 1), ("far", 2)]) (g := gTup K 2 (gCons (gName 1) (gCons (gName 2) gNil))) (tt := tYes) rfl scAscends.nd
    (RZ.pi_zipA (by rfl) T.zip (pa_cons (pv 0) (pa_cons (pe_slice sl_tupA (pv 0) (po_some pe_int) po_none) pa_nil))) (blkOk_by (N := nAscends) (sc := defScope sAscends) (by decide +kernel))
    (fun _ _ _ _ _ => pg_tup rfl (pgs_cons (pg_name (i := 1) scAscends.nd rfl (Or.inl rfl)) (pgs_cons (pg_name (i := 2) scAscends.nd rfl (Or.inl rfl)) pgs_nil))) (fun _ _ _ _ _ => pts_nil) (fun _ _ _ _ _ => pe_cmpR op_lt (pv 1) (pv 2) (nomark _))))), ?_⟩
  have src := w_zipI (K := K) (m := 1) (n := 2) (ns := ns) (ms := ns.drop 1) (δ := [some (ti ns), none, none]) (da_cons (d_var (i := 0) rfl) (da_cons ((d_slice (d_var (i := 0) rfl) (o_some d_int) o_none).to (by rw [cut_tail])) da_nil))
  have en : min ns.length (ns.drop 1).length = ns.length - 1 := by
    rw [List.length_drop]
    omega
  rw [en] at src
  refine s_ret (d_all (f := fun i => decide (ns.getD i 0 < ns.getD (i + 1) 0)) (d_lc src (by omega) (fun i p hp => ?_) (fun i hi => b_yes) fun i hi _ => ?_))
  · rcases List.mem_cons.mp hp with rfl | hp
    · exact List.mem_cons_self
    · rw [List.mem_singleton.mp hp]
      simp
  · rw [← getD_drop1 ns i]
    exact d_op (d_var rfl) (d_var rfl) rd_cmp
def RIsNumberSet (ds : List PyData) (d : PyData) : Prop := ∃ (ns : List Int) (m : Int), ns.length ≤ 1000 ∧ ds = [ti ns, .int m] ∧ d = .bool (((List.range ns.length).all fun i => below (ns.getD i 0) m) && asc ns)
theorem ok_is_number_set (F : FunM K mg "is_number_set" sIsNumberSet) (T : Blt mg) (G1 : Dfn P w K mg base CX0 3 "is_below" ["thing", "many"] (spD K RIsBelow)) (G2 : Dfn P w K mg base CX0 1 "ascends" ["thing"] (spD K RAscends)) :
    Dfn P w K mg base CX0 4 "is_number_set" ["thing", "many"] (spD K RIsNumberSet) := by
  refine dfn_of F scIsNumberSet (fun _ _ _ _ _ _ us hl => match us, hl with | [_, _], _ => rfl) (fun ds d ⟨_, _, _, h, _⟩ => by rw [h]; rfl) ?_
  rintro f cdv A outer s H E hr ds d ⟨ns, m, hl, rfl, rfl⟩
  refine ⟨_, pss_cons (ps_if (PW.pt (pw_or (pt_not (pt_val (pIsi T (pv 0) (cTuple T)))) (pw_or1 (pt_not (pt_val (pAll T rfl
      (pe_lc (own := [("part", 2)]) (g := gName 2) (tt := tYes) rfl scIsNumberSet.nd (pi_tup (pv 0)) (blkOk_by (N := nIsNumberSet) (sc := defScope sIsNumberSet) (by decide +kernel))
        (fun _ _ _ _ _ => pg_name (i := 2) scIsNumberSet.nd rfl (Or.inl rfl)) (fun _ _ _ _ _ => pts_nil) (fun _ _ _ _ _ => pc G1 hr (pa_cons (pv 2) (pa_cons (pv 1) pa_nil)))))))))) (pss_one (ps_ret pe_bl)) pss_nil)
    (pss_one (ps_ret (pc G2 (hr.mono (by decide)) (pa_cons (pv 0) pa_nil)))), ?_⟩
  have hall := d_all (K := K) (δ := [some (ti ns), some (.int m), none]) (f := fun i => below (ns.getD i 0) m) (d_lc (vs := [2]) (tt := tYes) (te := tCall (spD K RIsBelow) [] E0 (tCons (tVar 2) (tCons (tVar 1) tNil)))
    (w_tupI (n := 2) (d_var (i := 0) rfl)) (by omega) (fun i p hp => by rw [List.mem_singleton.mp hp]; simp) (fun i hi => b_yes) fun i hi _ => d_call (da_cons (d_var rfl) (da_cons (d_var rfl) da_nil)) ⟨_, _, rfl, rfl⟩)
  have test := b_or (b_not (b_B (d_isi (K := K) (δ := [some (ti ns), some (.int m), none]) (d_var (i := 0) rfl) (kTu (ti ns) rfl)))) fun _ => b_not (b_B hall)
  cases hb : (List.range ns.length).all fun i => below (ns.getD i 0) m with
  | false =>
    refine s_seqR (s_ifT (test.to ?_) (s_ret d_bl))
    rw [hb]
    rfl
  | true =>
    refine s_seq (s_ifF (test.to ?_) s_next) (s_ret (d_call (da_cons (d_var rfl) da_nil) ⟨ns, hl, rfl, rfl⟩))
    rw [hb]
    rfl
def RTupI (ds : List PyData) (d : PyData) : Prop := ∃ i : Int, ds = [.int i] ∧ d = .int i
def RTup (ds : List PyData) (d : PyData) : Prop := ∃ ns : List Int, ns.length ≤ 1000 ∧ (ds = [ti ns] ∨ ds = [li ns]) ∧ d = ti ns
theorem ok_tupled0 (F : FunM K mg "tupled" sTupled) (T : Blt mg) : Dfn P w K mg base CX0 1 "tupled" ["thing"] (spD K RTupI) := by
  refine dfn_of F scTupled (fun _ _ _ _ _ _ us hl => match us, hl with | [_], _ => rfl) (fun ds d ⟨_, h, _⟩ => by rw [h]; rfl) ?_
  rintro f cdv A outer s H E hr ds d ⟨i, rfl, rfl⟩
  refine ⟨_, pss_one (ps_ret (pe_ifExp (pt_val (pIsiT T (pv 0) (pe_tup (pa_cons (cList T) (pa_cons (cTuple T) pa_nil))))) pe_nv (pv 0))), ?_⟩
  exact s_ret (d_if (b := false) (b_B (d_isiT (d_var rfl) (kLi (.int i) rfl) (kTu (.int i) rfl))) (fun z => nomatch z) fun _ => d_var rfl)
theorem given_ints (ns : List Int) : givenD ns.length (fun _ => true) (fun i => .int (ns.getD i 0)) = ns.map PyData.int := by
  rw [given_all]
  exact range_map_getD PyData.int ns
theorem ok_tupled (F : FunM K mg "tupled" sTupled) (T : Blt mg) (G : Dfn P w K mg base CX0 1 "tupled" ["thing"] (spD K RTupI)) : Dfn P w K mg base CX0 2 "tupled" ["thing"] (spD K RTup) := by
  refine dfn_of F scTupled (fun _ _ _ _ _ _ us hl => match us, hl with | [_], _ => rfl) (fun ds d ⟨_, _, h, _⟩ => by rcases h with h | h <;> (rw [h]; rfl)) ?_
  rintro f cdv A outer s H E hr ds d ⟨ns, hl, h, rfl⟩
  rcases h with rfl | rfl
  · refine ⟨_, pss_one (ps_ret (pe_ifExp (pt_val (pIsiT T (pv 0) (pe_tup (pa_cons (cList T) (pa_cons (cTuple T) pa_nil))))) (pTup T (pe_lc (own := [("part", 1)]) (g := gName 1) (tt := tYes) rfl scTupled.nd (pi_tup (pv 0))
      (blkOk_by (N := nTupled) (sc := defScope sTupled) (by decide +kernel)) (fun _ _ _ _ _ => pg_name (i := 1) scTupled.nd rfl (Or.inl rfl)) (fun _ _ _ _ _ => pts_nil) (fun _ _ _ _ _ => pc G hr (pa_cons (pv 1) pa_nil)))) (pv 0))), ?_⟩
    refine s_ret (d_if (b := true) (b_B (d_isiT (d_var rfl) (kLi (ti ns) rfl) (kTu (ti ns) rfl))) (fun _ => d_cb (da_cons ?_ da_nil) rc_tupL) fun z => nomatch z)
    exact (d_lc (w_tupI (n := 1) (d_var rfl)) (by omega) (fun i p hp => by rw [List.mem_singleton.mp hp]; simp) (fun i hi => b_yes) fun i hi _ => d_call (da_cons (d_var rfl) da_nil) ⟨_, rfl, rfl⟩).to (by rw [given_ints])
  · refine ⟨_, pss_one (ps_ret (pe_ifExp (pt_val (pIsiT T (pv 0) (pe_tup (pa_cons (cList T) (pa_cons (cTuple T) pa_nil))))) (pTup T (pe_lc (own := [("part", 1)]) (g := gName 1) (tt := tYes) rfl scTupled.nd (pi_list (pv 0))
      (blkOk_by (N := nTupled) (sc := defScope sTupled) (by decide +kernel)) (fun _ _ _ _ _ => pg_name (i := 1) scTupled.nd rfl (Or.inl rfl)) (fun _ _ _ _ _ => pts_nil) (fun _ _ _ _ _ => pc G hr (pa_cons (pv 1) pa_nil)))) (pv 0))), ?_⟩
    refine s_ret (d_if (b := true) (b_B (d_isiT (d_var rfl) (kLi (li ns) rfl) (kTu (li ns) rfl))) (fun _ => d_cb (da_cons ?_ da_nil) rc_tupL) fun z => nomatch z)
    exact (d_lc (w_listI (n := 1) (d_var rfl)) (by omega) (fun i p hp => by rw [List.mem_singleton.mp hp]; simp) (fun i hi => b_yes) fun i hi _ => d_call (da_cons (d_var rfl) da_nil) ⟨_, rfl, rfl⟩).to (by rw [given_ints])
end
end Lo
/-! D3: signs.py. -/
namespace Lo
open PySem PySem.Spec L2 Evl PyProof.Rows

/-! ### data compared -/
theorem eqvAll_ints : ∀ ns ms : List Int, PyData.eqvAll (ns.map PyData.int) (ms.map PyData.int) = decide (ns = ms)
  | [], [] => by simp [PyData.eqvAll]
  | [], _ :: _ => by simp [PyData.eqvAll]
  | _ :: _, [] => by simp [PyData.eqvAll]
  | n :: r, m :: s => by
    rw [List.map_cons, List.map_cons, PyData.eqvAll, eqvAll_ints r s, PyData.eqv]
    rw [Bool.eq_iff_iff]
    simp
theorem eqv_ti (ns ms : List Int) : PyData.eqv (ti ns) (ti ms) = decide (ns = ms) := by
  show PyData.eqv (.tuple _) (.tuple _) = _
  rw [PyData.eqv]
  exact eqvAll_ints ns ms
theorem eqv_int (i j : Int) : PyData.eqv (.int i) (.int j) = decide (i = j) := by
  rw [PyData.eqv, Bool.beq_eq_decide_eq]
theorem canLay_ints : ∀ ns : List Int, PyData.canLayAll0 (ns.map PyData.int) = true
  | [] => rfl
  | n :: r => by
    rw [List.map_cons, PyData.canLayAll0, canLay_ints r]
    rfl
theorem depth_ints : ∀ ns : List Int, PyData.depthAll (ns.map PyData.int) = 0
  | [] => rfl
  | n :: r => by
    rw [List.map_cons, PyData.depthAll, depth_ints r]
    rfl
theorem shaped_ti (ns : List Int) : SeqAt.shaped (ti ns) = true := by
  unfold SeqAt.shaped
  rw [show PyData.canLay0 (ti ns) = true from canLay_ints ns, show PyData.depth (ti ns) = 1 from by
    show PyData.depthAll _ + 1 = 1
    rw [depth_ints]]
  rfl
theorem rd_eqI {K : PySem.W.Frag} {i j : Int} : RD K (rEqD K) (.int i) (.int j) (.bool (decide (i = j))) := by
  have h := rd_eq (K := K) (x := .int i) (y := .int j) rfl rfl
  rw [eqv_int] at h
  exact h
theorem rd_neI {K : PySem.W.Frag} {i j : Int} : RD K (rNeD K) (.int i) (.int j) (.bool (!decide (i = j))) := by
  have h := rd_ne (K := K) (x := .int i) (y := .int j) rfl rfl
  rw [eqv_int] at h
  exact h
theorem rd_eqT {K : PySem.W.Frag} {ns ms : List Int} : RD K (rEqD K) (ti ns) (ti ms) (.bool (decide (ns = ms))) := by
  have h := rd_eq (K := K) (shaped_ti ns) (shaped_ti ms)
  rw [eqv_ti] at h
  exact h
/-- the i-th of a tuple of ints -/
theorem rd_at {K : PySem.W.Frag} {ns : List Int} {i : Nat} (h : i < ns.length) : RD K (rIxT K) (ti ns) (.int (i : Nat)) (.int (ns.getD i 0)) := by
  refine rd_ixT (atI_nat ?_)
  rw [List.getElem?_map, List.getD_eq_getElem?_getD, List.getElem?_eq_getElem h]
  rfl
theorem Fgt.set (δ : De) (n : Nat) : Fgt δ (δ.set n none) := by
  refine ⟨(List.length_set).symm, fun i d h => ?_⟩
  by_cases e : n = i
  · subst e
    rw [List.getElem?_set] at h
    split at h
    · split at h <;> cases h
    · exact absurd rfl ‹_›
  · rwa [List.getElem?_set_ne e] at h
theorem Fgt.trans {a b c : De} (h : Fgt a b) (h' : Fgt b c) : Fgt a c := ⟨h.1.trans h'.1, fun i d z => h.2 i d (h'.2 i d z)⟩

/-! ### constants -/
def prodT : List (List Int) := [[0, 0, 0, 0], [0, 1, 2, 3], [0, 2, 3, 1], [0, 3, 1, 2]]
def prodD : PyData := .tuple (prodT.map ti)
structure Cst (K : PySem.W.Frag) (mg : Str → Option Value) : Prop where
  signs : ∃ t, mg "SIGNS" = some (.int 4 t)
  places : ∃ t, mg "PLACES" = some (.int 6 t)
  lamps : ∃ t, mg "LAMPS" = some (.int 24 t)
  short : ∃ t, mg "SHORT" = some (.int 4 t)
  prods : ∃ p, mg "PRODUCTS" = some (.ref p) ∧ ∀ H, Da K H (.ref p) prodD
section
variable {X : Cx} (C : Cst X.K X.mg) {pos : Pos}
include C
theorem gSigns (hg : Gl X "SIGNS" := by rfl) : PE X (.Name "SIGNS" pos) (tC (.int 4)) := let ⟨t, h⟩ := C.signs; pe_glob hg h ⟨t, rfl⟩
theorem gPlaces (hg : Gl X "PLACES" := by rfl) : PE X (.Name "PLACES" pos) (tC (.int 6)) := let ⟨t, h⟩ := C.places; pe_glob hg h ⟨t, rfl⟩
theorem gLamps (hg : Gl X "LAMPS" := by rfl) : PE X (.Name "LAMPS" pos) (tC (.int 24)) := let ⟨t, h⟩ := C.lamps; pe_glob hg h ⟨t, rfl⟩
theorem gShort (hg : Gl X "SHORT" := by rfl) : PE X (.Name "SHORT" pos) (tC (.int 4)) := let ⟨t, h⟩ := C.short; pe_glob hg h ⟨t, rfl⟩
end
/-- a sign -/
abbrev Sg (i : Int) : Prop := 0 ≤ i ∧ i < 4
def mulS (a b : Int) : Int := (prodT.getD a.toNat []).getD b.toNat 0
abbrev xorI (a b : Int) : Int := Builtin.bitXor a b
def x3 (a b c : Int) : Int := xorI (xorI (xorI 0 a) b) c
def wordP (a b c : Int) : List Int := [a, b, c, x3 a b c, x3 (mulS 3 a) (mulS 2 b) c, x3 (mulS 2 a) (mulS 3 b) c]
theorem Sg.cases {i : Int} (h : Sg i) : i = 0 ∨ i = 1 ∨ i = 2 ∨ i = 3 := by
  obtain ⟨h1, h2⟩ := h
  omega
theorem Sg.nat {i : Int} (h : Sg i) : ∃ n : Nat, n < 4 ∧ i = (n : Int) := ⟨i.toNat, by have := h.1; have := h.2; omega, by have := h.1; omega⟩

section
variable {P : Program} {w : World} {K : PySem.W.Frag} {mg : Str → Option Value} {base : Heap}
def RIsRow (ds : List PyData) (d : PyData) : Prop := ∃ ns : List Int, ns.length = 6 ∧ (∀ n ∈ ns, Sg n) ∧ ds = [ti ns] ∧ d = .bool true
theorem ok_is_row (F : FunM K mg "is_row" sIsRow) (T : Blt mg) (C : Cst K mg) (G1 : Dfn P w K mg base CX0 1 "is_tuple_of" ["thing", "size"] (spD K RIsTupleOf)) (G2 : Dfn P w K mg base CX0 3 "is_below" ["thing", "many"] (spD K RIsBelow)) :
    Dfn P w K mg base CX0 4 "is_row" ["thing"] (spD K RIsRow) := by
  refine dfn_of F scIsRow (fun _ _ _ _ _ _ us hl => match us, hl with | [_], _ => rfl) (fun ds d ⟨_, _, _, h, _⟩ => by rw [h]; rfl) ?_
  rintro f cdv A outer s H E hr ds d ⟨ns, hl, hs, rfl, rfl⟩
  refine ⟨_, pss_one (ps_ret (pe_and (pc G1 (hr.mono (by decide)) (pa_cons (pv 0) (pa_cons (gPlaces C) pa_nil))) (pe_one (pAll T rfl
      (pe_lc (own := [("sign", 1)]) (g := gName 1) (tt := tYes) rfl scIsRow.nd (pi_tup (pv 0)) (blkOk_by (N := nIsRow) (sc := defScope sIsRow) (by decide +kernel))
        (fun _ _ _ _ _ => pg_name (i := 1) scIsRow.nd rfl (Or.inl rfl)) (fun _ _ _ _ _ => pts_nil) (fun _ _ _ _ _ => pc G2 hr (pa_cons (pv 1) (pa_cons (gSigns C) pa_nil)))))))), ?_⟩
  have h1 : tupOf 6 (ti ns) = true := by
    show decide (((ns.map PyData.int).length : Int) = 6) = true
    rw [List.length_map, hl]
    rfl
  have h2 : ((List.range ns.length).all fun i => below (ns.getD i 0) 4) = true := by
    rw [List.all_eq_true]
    intro i hi
    have hi' : i < ns.length := List.mem_range.mp hi
    have hm := hs (ns.getD i 0) (by
      rw [List.getD_eq_getElem?_getD, List.getElem?_eq_getElem hi']
      exact List.getElem_mem hi')
    unfold below
    rw [decide_eq_true hm.1, decide_eq_true hm.2]
    rfl
  refine s_ret ((d_andV (d_call (da_cons (d_var rfl) (da_cons d_int da_nil)) ⟨ti ns, 6, rfl, rfl, rfl⟩) fun _ => d_all (f := fun i => below (ns.getD i 0) 4) (d_lc (w_tupI (n := 1) (d_var rfl)) (by omega)
    (fun i p hp => by rw [List.mem_singleton.mp hp]; simp) (fun i hi => b_yes) fun i hi _ => d_call (da_cons (d_var rfl) (da_cons d_int da_nil)) ⟨_, _, rfl, rfl⟩)).to ?_)
  rw [h1, h2]
  rfl
def RSignSum (ds : List PyData) (d : PyData) : Prop := ∃ ns : List Int, ns.length ≤ 1000 ∧ ds = [ti ns] ∧ d = .int (ns.foldl xorI 0)
theorem ok_sign_sum (F : FunM K mg "sign_sum" sSignSum) : Dfn P w K mg base CX0 1 "sign_sum" ["signs"] (spD K RSignSum) := by
  refine dfn_of F scSignSum (fun _ _ _ _ _ _ us hl => match us, hl with | [_], _ => rfl) (fun ds d ⟨_, _, h, _⟩ => by rw [h]; rfl) ?_
  rintro f cdv A outer s H E hr ds d ⟨ns, hl, rfl, rfl⟩
  refine ⟨_, pss_cons (ps_set (i := 1) scSignSum.nd rfl (Or.inl rfl) pe_int) (pss_cons (ps_for PassesOwn.never rfl (pi_tup (pv 0)) (pg_name (i := 2) scSignSum.nd rfl (Or.inl rfl))
    (pss_one (ps_set (i := 1) scSignSum.nd rfl (Or.inl rfl) (pe_op op_xor (pv 1) (pv 2))))) (pss_one (ps_ret (pv 1)))), ?_⟩
  have loop := s_for (K := K) (δ := [some (ti ns), some (.int 0), none]) (tb := tAsg (tOp (rI0 fun i j => .int (Builtin.bitXor i j)) (tVar 1) (tVar 2)) (gName 1)) (fun i => [some (ti ns), some (.int ((ns.take i).foldl xorI 0)), none])
    (w_tupI (n := 2) (d_var (i := 0) rfl)) (Fgt.refl _) (fun i hi => ?_)
  · rw [List.take_length] at loop
    exact s_seq (s_set d_int) (s_seq loop (s_ret (d_var rfl)))
  · refine s_fgt (s_set (d_op (d_var rfl) (d_var rfl) rd_int)) ?_
    have e : (ns.take (i + 1)).foldl xorI 0 = xorI ((ns.take i).foldl xorI 0) (ns.getD i 0) := by
      rw [List.take_add_one, List.getElem?_eq_getElem hi, List.foldl_append, List.getD_eq_getElem?_getD, List.getElem?_eq_getElem hi]
      rfl
    rw [e]
    exact Fgt.set [some (ti ns), some (.int (xorI ((ns.take i).foldl xorI 0) (ns.getD i 0))), some (.int (ns.getD i 0))] 2
def RSignProduct (ds : List PyData) (d : PyData) : Prop := ∃ a b : Int, Sg a ∧ Sg b ∧ ds = [.int a, .int b] ∧ d = .int (mulS a b)
theorem prod_row {a : Int} (h : Sg a) : atI (prodT.map ti) a = some (ti (prodT.getD a.toNat [])) := by
  rcases h.cases with rfl | rfl | rfl | rfl <;> rfl
theorem prod_at {a b : Int} (h : Sg a) (h2 : Sg b) : atI ((prodT.getD a.toNat []).map PyData.int) b = some (.int (mulS a b)) := by
  rcases h.cases with rfl | rfl | rfl | rfl <;> rcases h2.cases with rfl | rfl | rfl | rfl <;> rfl
theorem ok_sign_product (F : FunM K mg "sign_product" sSignProduct) (C : Cst K mg) : Dfn P w K mg base CX0 1 "sign_product" ["one", "other"] (spD K RSignProduct) := by
  refine dfn_of F scSignProduct (fun _ _ _ _ _ _ us hl => match us, hl with | [_, _], _ => rfl) (fun ds d ⟨_, _, _, _, h, _⟩ => by rw [h]; rfl) ?_
  rintro f cdv A outer s H E hr ds d ⟨a, b, ha, hb, rfl, rfl⟩
  obtain ⟨p, hp, hd⟩ := C.prods
  refine ⟨_, pss_one (ps_ret (pe_ix ix_tup (pe_ix ix_tup (pe_glob (v := .ref p) (by rfl) hp rfl) (pv 0) (fun _ _ => rfl)) (pv 1) (fun _ _ => rfl))), ?_⟩
  have hp2 : EvD K (tC (.ref p)) [some (.int a), some (.int b)] prodD := fun _ A _ _ q => q _ A (Pr.refl A) (hd _)
  exact s_ret (d_op (d_op hp2 (d_var rfl) (rd_ixT (prod_row ha))) (d_var rfl) (rd_ixT (prod_at ha hb)))
def RBegunWord (ds : List PyData) (d : PyData) : Prop := ∃ a b c : Int, Sg a ∧ Sg b ∧ Sg c ∧ ds = [.int a, .int b, .int c] ∧ d = ti (wordP a b c)
theorem ok_begun_word (F : FunM K mg "begun_word" sBegunWord) (G1 : Dfn P w K mg base CX0 1 "sign_sum" ["signs"] (spD K RSignSum)) (G2 : Dfn P w K mg base CX0 1 "sign_product" ["one", "other"] (spD K RSignProduct)) :
    Dfn P w K mg base CX0 2 "begun_word" ["one", "two", "three"] (spD K RBegunWord) := by
  refine dfn_of F scBegunWord (fun _ _ _ _ _ _ us hl => match us, hl with | [_, _, _], _ => rfl) (fun ds d ⟨_, _, _, _, _, _, h, _⟩ => by rw [h]; rfl) ?_
  rintro f cdv A outer s H E hr ds d ⟨a, b, c, ha, hb, hc, rfl, rfl⟩
  refine ⟨_, pss_cons (ps_set (i := 3) scBegunWord.nd rfl (Or.inl rfl) (pc G1 hr (pa_cons (pe_tup (pa_cons (pc G2 hr (pa_cons pe_int (pa_cons (pv 0) pa_nil))) (pa_cons (pc G2 hr (pa_cons pe_int (pa_cons (pv 1) pa_nil))) (pa_cons (pv 2) pa_nil)))) pa_nil)))
    (pss_cons (ps_set (i := 4) scBegunWord.nd rfl (Or.inl rfl) (pc G1 hr (pa_cons (pe_tup (pa_cons (pc G2 hr (pa_cons pe_int (pa_cons (pv 0) pa_nil))) (pa_cons (pc G2 hr (pa_cons pe_int (pa_cons (pv 1) pa_nil))) (pa_cons (pv 2) pa_nil)))) pa_nil)))
    (pss_one (ps_ret (pe_tup (pa_cons (pv 0) (pa_cons (pv 1) (pa_cons (pv 2) (pa_cons (pc G1 hr (pa_cons (pe_tup (pa_cons (pv 0) (pa_cons (pv 1) (pa_cons (pv 2) pa_nil)))) pa_nil)) (pa_cons (pv 3) (pa_cons (pv 4) pa_nil)))))))))), ?_⟩
  have s2 : Sg 2 := ⟨by decide, by decide⟩
  have s3 : Sg 3 := ⟨by decide, by decide⟩
  refine s_seq (s_set (d_call (da_cons (d_tup (da_cons (d_call (da_cons d_int (da_cons (d_var rfl) da_nil)) ⟨3, a, s3, ha, rfl, rfl⟩) (da_cons (d_call (da_cons d_int (da_cons (d_var rfl) da_nil)) ⟨2, b, s2, hb, rfl, rfl⟩) (da_cons (d_var rfl) da_nil))) (by show (3 : Nat) ≤ 100000; decide)) da_nil) ⟨[mulS 3 a, mulS 2 b, c], by simp, rfl, rfl⟩)) ?_
  refine s_seq (s_set (d_call (da_cons (d_tup (da_cons (d_call (da_cons d_int (da_cons (d_var rfl) da_nil)) ⟨2, a, s2, ha, rfl, rfl⟩) (da_cons (d_call (da_cons d_int (da_cons (d_var rfl) da_nil)) ⟨3, b, s3, hb, rfl, rfl⟩) (da_cons (d_var rfl) da_nil))) (by show (3 : Nat) ≤ 100000; decide)) da_nil) ⟨[mulS 2 a, mulS 3 b, c], by simp, rfl, rfl⟩)) ?_
  exact s_ret (d_tup (da_cons (d_var rfl) (da_cons (d_var rfl) (da_cons (d_var rfl) (da_cons (d_call (da_cons (d_tup (da_cons (d_var rfl) (da_cons (d_var rfl) (da_cons (d_var rfl) da_nil))) (by show (3 : Nat) ≤ 100000; decide)) da_nil) ⟨[a, b, c], by simp, rfl, rfl⟩) (da_cons (d_var rfl) (da_cons (d_var rfl) da_nil)))))) (by show (6 : Nat) ≤ 100000; decide))
def RIsWord (ds : List PyData) (d : PyData) : Prop := ∃ ns : List Int, ns.length = 6 ∧ (∀ n ∈ ns, Sg n) ∧ ds = [ti ns] ∧ d = .bool (decide (wordP (ns.getD 0 0) (ns.getD 1 0) (ns.getD 2 0) = ns))
theorem sg_at {ns : List Int} (hs : ∀ n ∈ ns, Sg n) {i : Nat} (h : i < ns.length) : Sg (ns.getD i 0) := hs _ (by
  rw [List.getD_eq_getElem?_getD, List.getElem?_eq_getElem h]
  exact List.getElem_mem h)
theorem ok_is_word (F : FunM K mg "is_word" sIsWord) (G1 : Dfn P w K mg base CX0 4 "is_row" ["thing"] (spD K RIsRow)) (G2 : Dfn P w K mg base CX0 2 "begun_word" ["one", "two", "three"] (spD K RBegunWord)) :
    Dfn P w K mg base CX0 5 "is_word" ["thing"] (spD K RIsWord) := by
  refine dfn_of F scIsWord (fun _ _ _ _ _ _ us hl => match us, hl with | [_], _ => rfl) (fun ds d ⟨_, _, _, h, _⟩ => by rw [h]; rfl) ?_
  rintro f cdv A outer s H E hr ds d ⟨ns, hl, hs, rfl, rfl⟩
  refine ⟨_, pss_one (ps_ret (pe_and (pc G1 hr (pa_cons (pv 0) pa_nil)) (pe_one (pe_cmpR (op_eqD hr.units) (pc G2 (hr.mono (by decide)) (pa_cons (pe_ix ix_tup (pv 0) pe_int (fun _ _ => rfl)) (pa_cons (pe_ix ix_tup (pv 0) pe_int (fun _ _ => rfl)) (pa_cons (pe_ix ix_tup (pv 0) pe_int (fun _ _ => rfl)) pa_nil))))
    (pv 0) (nomark _))))), ?_⟩
  exact s_ret (d_andV (b := true) (d_call (da_cons (d_var rfl) da_nil) ⟨ns, hl, hs, rfl, rfl⟩) fun _ => d_op (d_call (da_cons (d_op (d_var rfl) d_int (rd_at (i := 0) (by omega))) (da_cons (d_op (d_var rfl) d_int (rd_at (i := 1) (by omega))) (da_cons (d_op (d_var rfl) d_int (rd_at (i := 2) (by omega))) da_nil)))
    ⟨_, _, _, sg_at hs (by omega), sg_at hs (by omega), sg_at hs (by omega), rfl, rfl⟩) (d_var rfl) rd_eqT)
end
end Lo
/-! A6: a list of a def's own that changes. -/
namespace Lo
open PySem PySem.Spec L2 Evl PyProof.Rows

/-- from A0 on a new list at p was made, slot i holds it; it is not known, all else that is known is -/
structure Ow (K : PySem.W.Frag) (A0 : Hd) (σ : L2.St) (B : Hd) (δ : De) (i : Nat) (p : Addr) (xs : List V) : Prop where
  kn : KnS K σ B.k δ
  sl : σ[i]? = some (some (.ref p))
  nk : B.k p = none
  st : B.h p = some (.lst xs)
  pr : Pr A0 B
  fresh : A0.h p = none
section
variable {K : PySem.W.Frag} {A A0 B C : Hd} {σ σ' : L2.St} {δ δ' : De} {i : Nat} {p : Addr} {xs ys : List V} {d : PyData} {ds : List PyData}
theorem Ow.step (o : Ow K A0 σ B δ i p xs) (e : Pr B C) : Ow K A0 σ C δ i p xs :=
  ⟨o.kn.ex e.k, o.sl, e.fr p o.nk (fun z => by rw [o.st] at z; cases z), e.h _ _ o.st, o.pr.trans e, o.fresh⟩
theorem Ow.mut (o : Ow K A0 σ B δ i p xs) (ys : List V) : Ow K A0 σ (B.mut p (.lst ys) o.nk) δ i p ys :=
  ⟨o.kn, o.sl, o.nk, upd_same, ⟨o.pr.k, Ex.mut o.pr.h o.fresh, o.pr.fr⟩, o.fresh⟩
theorem Ow.slots (o : Ow K A0 σ B δ i p xs) (k : KnS K σ' B.k δ') (h : σ'[i]? = σ[i]?) : Ow K A0 σ' B δ' i p xs := ⟨k, h.trans o.sl, o.nk, o.st, o.pr, o.fresh⟩
theorem Ow.fgt (o : Ow K A0 σ B δ i p xs) (f : Fgt δ δ') : Ow K A0 σ B δ' i p xs := ⟨o.kn.fgt f, o.sl, o.nk, o.st, o.pr, o.fresh⟩
/-- made just now -/
theorem Ow.made (pr : Pr A0 B) (kn : KnS K σ B.k δ) (hp : B.h p = none) (hi : i < σ.length) : Ow K A0 (σ.set i (some (.ref p))) (B.mut p (.lst xs) (B.kn hp)) (δ.set i none) i p xs := by
  refine ⟨kn.setAny, ?_, B.kn hp, upd_same, ⟨pr.k, Ex.mut pr.h (fresh_back pr.h hp), pr.fr⟩, fresh_back pr.h hp⟩
  rw [List.getElem?_set, if_pos rfl, if_pos hi]
/-- from now on it is known: it changes no more -/
def Hd.learn (B : Hd) (p : Addr) (o : HO) (h : B.h p = some o) : Hd where
  k := upd B.k p o
  h := B.h
  ex := fun a u e => by
    by_cases z : a = p
    · subst z
      rw [upd_same] at e
      rw [h, e]
    · rw [upd_ne z] at e
      exact B.ex a u e
theorem Ow.learnt (o : Ow K A0 σ B δ i p xs) : Pr A0 (B.learn p _ o.st) ∧ Ex B.k (B.learn p _ o.st).k ∧ (B.learn p _ o.st).k p = some (.lst xs) := by
  refine ⟨⟨o.pr.k.trans (Ex.new o.nk), o.pr.h, fun q h1 h2 => ?_⟩, Ex.new o.nk, upd_same⟩
  have ne : q ≠ p := fun z => by
    subst z
    exact h2 o.fresh
  show upd B.k p _ q = none
  rw [upd_ne ne]
  exact o.pr.fr q h1 h2
theorem Ow.da (o : Ow K A0 σ B δ i p xs) (h : DaAll K B.k xs ds) : Da K (B.learn p _ o.st).k (.ref p) (.list ds) := .lst o.learnt.2.2 (h.ex o.learnt.2.1)
/-- a for over what SrcD walks, by a word of one's own -/
theorem raw_for {wi : TI} {g : TG} {tb : TS} {n : Nat} {ε : Nat → List (Nat × PyData)} {D : Ends} (hs : SrcD K wi g δ n ε) (kn : KnS K σ A.k δ) (Pv : Hd → Nat → L2.St → Hd → Prop) (h0 : ∀ B, Pr A B → Pv B 0 σ B)
    (hx : ∀ B i σ' C, Pr A B → Pv B i σ' C → Ex B.k C.k)
    (ht : ∀ B i σ' C x C2, Pr A B → i < n → Pv B i σ' C → Pr C C2 → TgD K g x C C2 (ε i) → g x σ' C2.h fun σ2 H2 =>
      tb { D with nx := fun σ3 H3 => ∃ C3 : Hd, C3.h = H3 ∧ Pv B (i + 1) σ3 C3, ct := fun σ3 H3 => ∃ C3 : Hd, C3.h = H3 ∧ Pv B (i + 1) σ3 C3, bk := D.nx } σ2 H2)
    (hd : ∀ B σ' C, Pr A B → Pv B n σ' C → D.nx σ' C.h) : tFor wi g tb D σ A.h :=
  hs σ A kn _ fun J B e1 hgo hstop hyld => by
    refine ⟨fun i m σ' H' => m = n - i ∧ i ≤ n ∧ ∃ C : Hd, C.h = H' ∧ Pv B i σ' C, ⟨n, by simp, Nat.zero_le _, B, rfl, h0 B e1⟩, ?_⟩
    rintro i m σ' H' ⟨rfl, hi, C, rfl, c1⟩
    by_cases hlt : i < n
    · refine .inr ⟨hgo i C hlt (hx B i σ' C e1 c1), fun σ2 H2 => ∃ C3 : Hd, C3.h = H2 ∧ Pv B (i + 1) σ2 C3, fun σ2 H2 ⟨C3, e3, p3⟩ => ⟨n - (i + 1), by omega, rfl, hlt, C3, e3, p3⟩, fun x H'' y => ?_⟩
      obtain ⟨C2, rfl, c2, tg⟩ := hyld i C x H'' hlt (hx B i σ' C e1 c1) y
      exact ht B i σ' C x C2 e1 hlt c1 c2 tg
    · have e : i = n := by omega
      subst e
      exact .inl ⟨hstop C (hx B i σ' C e1 c1), hd B σ' C e1 c1⟩
theorem wipe_at {a : Nat} {vs : List Nat} (h : wipe σ' vs = wipe σ vs) (ha : a ∉ vs) : σ'[a]? = σ[a]? := by
  rw [← wipe_out (σ := σ') ha, ← wipe_out (σ := σ) ha, h]
end
end Lo
/-! C1: the same rules with the written part named (for the blocks of comprehensions). -/
namespace Lo
open PySem PySem.Spec L2 Evl PyProof.Rows
section
variable (K : PySem.W.Frag) {X : Cx} {e a b : Expr} {es : List Expr} {t : TA} {ta tb : TE} {p pos p2 p3 p4 : Pos}
theorem eqK (hu : X.A.units + 64 < cLine) (hK : X.K = K := by rfl) : OpR X (compareOp .Eq) (rEqD K) := hK ▸ op_eqD hu
theorem neK (hu : X.A.units + 64 < cLine) (hK : X.K = K := by rfl) : OpR X (compareOp .NotEq) (rNeD K) := hK ▸ op_neD hu
theorem inK (hK : X.K = K := by rfl) : OpR X (compareOp .In) (rIn K false) := hK ▸ op_in_seq
theorem ixTK (hK : X.K = K := by rfl) : IxR X (rIxT K) := hK ▸ ix_tup
theorem ixLK (hK : X.K = K := by rfl) : IxR X (rIxL K) := hK ▸ ix_list
theorem catAK (hK : X.K = K := by rfl) : OpR X (binaryOp .Add) (rCatA K) := hK ▸ op_catA
def rLenK (K : PySem.W.Frag) : List V → Hp → VK → Prop := fun xs H Q => ∃ p ys, xs = [.ref p] ∧ (SqL K H p ys ∨ SqT K H p ys) ∧ Q (.int ys.length) H
def rTupK (K : PySem.W.Frag) : List V → Hp → VK → Prop := fun xs H Q => ∃ p ys, xs = [.ref p] ∧ ((SqL K H p ys ∧ ∀ l, H l = none → Q (.ref l) (upd H l (.tup ys))) ∨ (SqT K H p ys ∧ Q (.ref p) H))
variable (T : Blt X.mg)
include T
theorem lenK (ha : PE X a ta) (hg : Gl X "len" := by rfl) (h1 : starEach [a] X.env = (false, eval a X.env) :: starEach [] X.env := by rfl) (hK : X.K = K := by rfl) : PE X (.Call (.Name "len" p) [a] [] pos) (tCB (rLenK K) (tCons ta tNil)) := hK ▸ pLen T ha hg h1
theorem tupK (ha : PE X a ta) (hg : Gl X "tuple" := by rfl) (h1 : starEach [a] X.env = (false, eval a X.env) :: starEach [] X.env := by rfl) (hK : X.K = K := by rfl) : PE X (.Call (.Name "tuple" p) [a] [] pos) (tCB (rTupK K) (tCons ta tNil)) := hK ▸ pTup T ha hg h1
end
section
variable {K : PySem.W.Frag} {ds : List PyData}
theorem rc_lenK : RDC K (rLenK K) [.tuple ds] (.int (ds.length : Nat)) := rc_len
theorem rc_lenKL : RDC K (rLenK K) [.list ds] (.int (ds.length : Nat)) := rc_lenL
theorem rc_tupK : RDC K (rTupK K) [.list ds] (.tuple ds) := rc_tupL
end
end Lo
/-! D4: board.py. -/
namespace Lo
open PySem PySem.Spec L2 Evl PyProof.Rows

theorem given_filter (q : Int → Bool) (ns : List Int) : givenD ns.length (fun i => q (ns.getD i 0)) (fun i => .int (ns.getD i 0)) = (ns.filter q).map PyData.int := by
  have h : (List.range ns.length).map (fun i => ns.getD i 0) = ns := (range_map_getD id ns).trans (List.map_id ns)
  have h2 : ns.filter q = ((List.range ns.length).filter fun i => q (ns.getD i 0)).map fun i => ns.getD i 0 := by
    conv => lhs; rw [← h]
    rw [List.filter_map]
    rfl
  rw [h2, List.map_map]
  rfl
/-- a lamp -/
abbrev Lamp (l : Int) : Prop := 0 ≤ l ∧ l < 24
def colSet (xs : List Int) (l : Int) : List Int := xs.set (l / 4).toNat (xorI (xs.getD (l / 4).toNat 0) (l % 4))
def colSigns (L : List Int) : List Int := L.foldl colSet [0, 0, 0, 0, 0, 0]
theorem colSet_len (xs : List Int) (l : Int) : (colSet xs l).length = xs.length := List.length_set
theorem colFold_len : ∀ (L xs : List Int), (L.foldl colSet xs).length = xs.length
  | [], _ => rfl
  | l :: L, xs => by
    rw [List.foldl_cons, colFold_len L, colSet_len]
def parV (L : List Int) : List Int := (List.range 6).map (fun c : Nat => (((L.filter fun l => decide (l / 4 = (c : Int))).length : Nat) : Int) % 2) ++ [(((L.filter fun l => decide (l % 4 = 0)).length : Nat) : Int) % 2]
theorem map_set_int (xs : List Int) (n : Nat) (i : Int) : (xs.map V.int).set n (V.int i) = (xs.set n i).map V.int := by
  rw [List.map_set]

theorem get_mapV {xs : List Int} {i : Nat} (h : i < xs.length) : (xs.map V.int)[i]? = some (V.int (xs.getD i 0)) := by
  rw [List.getElem?_map, List.getD_eq_getElem?_getD, List.getElem?_eq_getElem h]
  rfl
section
variable {P : Program} {w : World} {K : PySem.W.Frag} {mg : Str → Option Value} {base : Heap}
def RColumnLamps (ds : List PyData) (d : PyData) : Prop := ∃ (L : List Int) (c : Int), L.length ≤ 1000 ∧ ds = [ti L, .int c] ∧ d = ti (L.filter fun l => decide (l / 4 = c))
theorem ok_column_lamps (F : FunM K mg "column_lamps" sColumnLamps) (T : Blt mg) (C : Cst K mg) : Dfn P w K mg base CX0 1 "column_lamps" ["lot", "column"] (spD K RColumnLamps) := by
  refine dfn_of F scColumnLamps (fun _ _ _ _ _ _ us hl => match us, hl with | [_, _], _ => rfl) (fun ds d ⟨_, _, _, h, _⟩ => by rw [h]; rfl) ?_
  rintro f cdv A outer s H E hr ds d ⟨L, c, hl, rfl, rfl⟩
  refine ⟨_, pss_one (ps_ret (pTup T (pe_lc (own := [("lamp", 2)]) (g := gName 2) rfl scColumnLamps.nd (pi_tup (pv 0)) (blkOk_by (N := nColumnLamps) (sc := defScope sColumnLamps) (by decide +kernel))
        (fun _ _ _ _ _ => pg_name (i := 2) scColumnLamps.nd rfl (Or.inl rfl)) (fun _ _ _ _ _ => pts_one (pt_cmpR (eqK K hr.units) (pe_op op_fdiv (pv 2) (gSigns C)) (pv 1) (nomark _))) (fun _ _ _ _ _ => pv 2)))), ?_⟩
  refine s_ret (d_cb (da_cons ?_ da_nil) rc_tupL)
  rw [← given_filter]
  exact d_lc (w_tupI (n := 2) (d_var rfl)) (by omega) (fun i p hp => by rw [List.mem_singleton.mp hp]; simp) (fun i hi => b_test (d_op (d_op (d_var rfl) d_int (rd_intC ⟨by decide, by decide⟩)) (d_var rfl) rd_eqI)) (fun i hi _ => d_var rfl)
def RColumnSigns (ds : List PyData) (d : PyData) : Prop := ∃ L : List Int, L.length ≤ 1000 ∧ (∀ l ∈ L, Lamp l) ∧ ds = [ti L] ∧ d = ti (colSigns L)
theorem ok_column_signs (F : FunM K mg "column_signs" sColumnSigns) (T : Blt mg) (C : Cst K mg) : Dfn P w K mg base CX0 1 "column_signs" ["lot"] (spD K RColumnSigns) := by
  refine dfn_of F scColumnSigns (fun _ _ _ _ _ _ us hl => match us, hl with | [_], _ => rfl) (fun ds d ⟨_, _, _, h, _⟩ => by rw [h]; rfl) ?_
  rintro f cdv A outer s H E hr ds d ⟨L, hl, hL, rfl, rfl⟩
  refine ⟨_, pss_cons (ps_set (i := 1) scColumnSigns.nd rfl (Or.inl rfl) (pe_op op_rep (pe_lst (pa_cons pe_int pa_nil)) (gPlaces C)))
    (pss_cons (ps_for PassesOwn.never rfl (pi_tup (pv 0)) (pg_name (i := 2) scColumnSigns.nd rfl (Or.inl rfl))
      (pss_one (ps_asg (pe_op op_xor (pe_ix ix_list (pv 1) (pe_op op_fdiv (pv 2) (gSigns C)) (fun _ _ => rfl)) (pe_op op_mod (pv 2) (gSigns C))) (pg_sub (pv 1) (pe_op op_fdiv (pv 2) (gSigns C)) set_list))))
    (pss_one (ps_ret (pTup T (pv 1))))), ?_⟩
  intro σ A0 kn D q
  refine ⟨by show 1 ≤ sizeLine; decide, fun p hp => ⟨p, 6, [.int 0], rfl, rfl, upd_same, by decide, by decide, by decide, fun p2 hp2 => ?_⟩⟩
  have hσ : σ.length = 3 := kn.1
  have o := Ow.made (xs := (([0, 0, 0, 0, 0, 0] : List Int).map V.int)) (A0.pr hp) (kn.ex (A0.pr hp).k) hp2 (by rw [hσ]; decide : 1 < σ.length)
  refine raw_for (K := K) (δ := [some (ti L), none, none]) (w_tupI (n := 2) (d_var (i := 0) rfl)) o.kn (fun B i σ' C' => Ow K A0 σ' C' [some (ti L), none, none] 1 p2 (((L.take i).foldl colSet [0, 0, 0, 0, 0, 0]).map V.int) ∧ Ex B.k C'.k)
    (fun B e => ⟨o.step e, Ex.refl _⟩) (fun B i σ' C' _ h => h.2) ?_ ?_
  · rintro B i σ' C' x C2 e hi ⟨o1, x1⟩ c2 tg
    refine tg σ' _ o1.kn _ fun σ2 k2 hw => ?_
    have hs2 : σ2[1]? = σ'[1]? := wipe_at (hw [2] (fun p hp => by rw [List.mem_singleton.mp hp]; simp)) (by decide)
    have o2 := (o1.step c2).slots k2 hs2
    have lm := hL (L.getD i 0) (by
      rw [List.getD_eq_getElem?_getD, List.getElem?_eq_getElem hi]
      exact List.getElem_mem hi)
    generalize hxs : (L.take i).foldl colSet [0, 0, 0, 0, 0, 0] = xs at o2
    have hlen : xs.length = 6 := by rw [← hxs, colFold_len]; rfl
    have hq : (L.getD i 0 / 4).toNat < xs.length := by omega
    have hat : atI (xs.map V.int) (L.getD i 0 / 4) = some (V.int (xs.getD (L.getD i 0 / 4).toNat 0)) := by
      have e0 : (L.getD i 0 / 4) = (((L.getD i 0 / 4).toNat : Nat) : Int) := by omega
      rw [e0]
      refine atI_nat ?_
      rw [Int.toNat_natCast]
      exact get_mapV hq
    have hsl : σ2[2]? = some (some (V.int (L.getD i 0))) := by
      obtain ⟨v, hv, hd⟩ := k2.2 2 (.int (L.getD i 0)) rfl
      cases hd
      exact hv
    refine ⟨_, o2.sl, _, hsl, _, _, rfl, rfl, ⟨by decide, by decide⟩, p2, _, _, _, rfl, rfl, SqL.of o2.st, hat, _, hsl, _, _, rfl, rfl, by show (0 : Int) < 4; decide, _, _, rfl, rfl, ?_⟩
    refine ⟨_, o2.sl, _, hsl, _, _, rfl, rfl, ⟨by decide, by decide⟩, p2, _, _, (L.getD i 0 / 4).toNat, rfl, rfl, o2.st, ?_, ?_⟩
    · unfold ixN
      rw [if_pos (by omega), if_pos (by rw [List.length_map]; omega)]
    · refine ⟨C2.mut p2 _ o2.nk, rfl, ?_, x1.trans c2.k⟩
      have en : (L.take (i + 1)).foldl colSet [0, 0, 0, 0, 0, 0] = xs.set (L.getD i 0 / 4).toNat (xorI (xs.getD (L.getD i 0 / 4).toNat 0) (L.getD i 0 % 4)) := by
        rw [List.take_add_one, List.getElem?_eq_getElem hi, List.foldl_append, hxs, List.getD_eq_getElem?_getD (l := L), List.getElem?_eq_getElem hi]
        rfl
      rw [en, ← map_set_int]
      exact (o2.mut _).fgt (Fgt.set [some (ti L), none, some (.int (L.getD i 0))] 2)
  · rintro B σ' C' e ⟨o1, x1⟩
    rw [List.take_length] at o1
    refine ⟨_, o1.sl, p2, _, rfl, .inl ⟨SqL.of o1.st, fun l hl => ?_⟩⟩
    exact q _ (C'.new l _ hl) (o1.pr.trans (C'.pr hl)) (.tup (st_of upd_same) (DaAll.ints _))
def RParities (ds : List PyData) (d : PyData) : Prop := ∃ L : List Int, L.length ≤ 1000 ∧ ds = [ti L] ∧ d = ti (parV L)
theorem ok_parities (F : FunM K mg "parities" sParities) (T : Blt mg) (C : Cst K mg) (G : Dfn P w K mg base CX0 1 "column_lamps" ["lot", "column"] (spD K RColumnLamps)) : Dfn P w K mg base CX0 2 "parities" ["lot"] (spD K RParities) := by
  refine dfn_of F scParities (fun _ _ _ _ _ _ us hl => match us, hl with | [_], _ => rfl) (fun ds d ⟨_, _, h, _⟩ => by rw [h]; rfl) ?_
  rintro f cdv A outer s H E hr ds d ⟨L, hl, rfl, rfl⟩
  refine ⟨_, pss_cons (ps_setLc (i := 1) (own := [("column", 2)]) (g := gName 2) (tt := tYes) rfl scParities.nd rfl rfl (sw_true rfl rfl rfl (by decide +kernel)) (pi_range1 rfl T.range (pa_cons (gPlaces C) pa_nil)) (blkOk_by (N := nParities) (sc := defScope sParities) (by decide +kernel))
      (fun _ _ _ _ _ => pg_name (i := 2) scParities.nd rfl (Or.inl rfl)) (fun _ _ _ _ _ => pts_nil) (fun _ _ _ _ _ => pe_op op_mod (lenK K T (pc G hr (pa_cons (pv 0) (pa_cons (pv 2) pa_nil)))) pe_int))
    (pss_one (ps_ret (pTup T (pe_op op_cat (pv 1) (pe_lst (pa_cons (pe_op op_mod (pLen T (pe_lc (own := [("lamp", 3)]) (g := gName 3) rfl scParities.nd (pi_tup (pv 0)) (blkOk_by (N := nParities) (sc := defScope sParities) (by decide +kernel))
      (fun _ _ _ _ _ => pg_name (i := 3) scParities.nd rfl (Or.inl rfl)) (fun _ _ _ _ _ => pts_one (pt_cmpR (eqK K hr.units) (pe_op op_mod (pv 3) (gSigns C)) pe_int (nomark _))) (fun _ _ _ _ _ => pv 3))) pe_int) pa_nil)))))), ?_⟩
  have m2 : (0 : Int) < 2 := by decide
  have m4 : (0 : Int) < 4 := by decide
  refine s_seq (s_set (EvD.to (z := .list ((List.range 6).map fun i : Nat => .int ((((L.filter fun l => decide (l / 4 = (i : Int))).length : Nat) : Int) % 2))) (d_lc (f := fun _ => true) (val := fun i => .int ((((L.filter fun l => decide (l / 4 = (i : Int))).length : Nat) : Int) % 2)) (w_rng1 (n := 2) (m := 6) (da_cons d_int da_nil) (by decide)) (by decide)
    (fun i p hp => by rw [List.mem_singleton.mp hp]; simp) (fun i hi => b_yes) (fun i hi _ => d_op ((d_cb (da_cons (d_call (da_cons (d_var (i := 0) rfl) (da_cons (d_var (i := 2) rfl) da_nil)) ⟨L, _, hl, rfl, rfl⟩) da_nil) rc_lenK).to (by rw [List.length_map])) d_int (rd_intC (f := fun i j => i % j) m2))) (congrArg PyData.list given_all))) (s_ret (d_cb (da_cons ?_ da_nil) rc_tupL))
  refine EvD.to (d_op (d_var rfl) (d_lst (da_cons (d_op (EvD.to (z := .int (((L.filter fun l => decide (l % 4 = 0)).length : Nat) : Int)) (d_cb (da_cons (EvD.to (z := li (L.filter fun l => decide (l % 4 = 0))) (d_lc (w_tupI (n := 3) (d_var rfl)) (by omega)
    (fun i p hp => by rw [List.mem_singleton.mp hp]; simp) (fun i hi => b_test (d_op (d_op (d_var rfl) d_int (rd_intC (f := fun i j => i % j) m4)) d_int rd_eqI)) (fun i hi _ => d_var rfl)) (congrArg PyData.list (given_filter (fun l => decide (l % 4 = 0)) L))) da_nil) rc_lenL)
    (by rw [List.length_map])) d_int (rd_intC (f := fun i j => i % j) m2)) da_nil) (by show (1 : Nat) ≤ 100000; decide)) (rd_catL (by simp))) ?_
  unfold parV
  rw [List.map_append, List.map_map]
  rfl
end
end Lo
/-! M1: lots by their lamps: signs, parities, right ones. -/
namespace Lo
open PySem L2

def Lp (p : Nat → Bool) : List Int := ((List.range 24).filter p).map fun i : Nat => (i : Int)
def b2 (b : Bool) : Int := if b then 1 else 0
def sg (b1 b2 b3 : Bool) : Int := match b1, b2, b3 with
  | false, false, false => 0
  | true, false, false => 1
  | false, true, false => 2
  | false, false, true => 3
  | true, true, false => 3
  | true, false, true => 2
  | false, true, true => 1
  | true, true, true => 0
def sgn (p : Nat → Bool) (c : Nat) : Int := sg (p (4 * c + 1)) (p (4 * c + 2)) (p (4 * c + 3))
def par (p : Nat → Bool) (c : Nat) : Bool := p (4 * c) ^^ p (4 * c + 1) ^^ p (4 * c + 2) ^^ p (4 * c + 3)
def top (p : Nat → Bool) : Bool := p 0 ^^ p 4 ^^ p 8 ^^ p 12 ^^ p 16 ^^ p 20
theorem sg_Sg (a b c : Bool) : Sg (sg a b c) := by cases a <;> cases b <;> cases c <;> decide
theorem mem_Lp {p : Nat → Bool} {l : Int} (h : l ∈ Lp p) : Lamp l := by
  obtain ⟨i, hi, rfl⟩ := List.mem_map.mp h
  have := List.mem_range.mp (List.mem_filter.mp hi).1
  omega
theorem len_Lp (p : Nat → Bool) : (Lp p).length ≤ 24 := by
  unfold Lp
  rw [List.length_map]
  have := List.length_filter_le p (List.range 24)
  rwa [List.length_range] at this

/-! ### the signs of the columns -/
theorem xt00 : Builtin.bitXor 0 0 = 0 := by decide +kernel
theorem xt01 : Builtin.bitXor 0 1 = 1 := by decide +kernel
theorem xt02 : Builtin.bitXor 0 2 = 2 := by decide +kernel
theorem xt03 : Builtin.bitXor 0 3 = 3 := by decide +kernel
theorem xt10 : Builtin.bitXor 1 0 = 1 := by decide +kernel
theorem xt11 : Builtin.bitXor 1 1 = 0 := by decide +kernel
theorem xt12 : Builtin.bitXor 1 2 = 3 := by decide +kernel
theorem xt13 : Builtin.bitXor 1 3 = 2 := by decide +kernel
theorem xt20 : Builtin.bitXor 2 0 = 2 := by decide +kernel
theorem xt21 : Builtin.bitXor 2 1 = 3 := by decide +kernel
theorem xt22 : Builtin.bitXor 2 2 = 0 := by decide +kernel
theorem xt23 : Builtin.bitXor 2 3 = 1 := by decide +kernel
theorem xt30 : Builtin.bitXor 3 0 = 3 := by decide +kernel
theorem xt31 : Builtin.bitXor 3 1 = 2 := by decide +kernel
theorem xt32 : Builtin.bitXor 3 2 = 1 := by decide +kernel
theorem xt33 : Builtin.bitXor 3 3 = 0 := by decide +kernel
def stp (b : Bool) (l : Int) (xs : List Int) : List Int := if b then colSet xs l else xs
theorem col0 (a1 a2 a3 a4 a5 : Int) (b0 b1 b2 b3 : Bool) : stp b3 3 (stp b2 2 (stp b1 1 (stp b0 0 [0, a1, a2, a3, a4, a5]))) = [sg b1 b2 b3, a1, a2, a3, a4, a5] := by
  cases b0 <;> cases b1 <;> cases b2 <;> cases b3 <;> simp [stp, colSet, sg, xt00, xt01, xt02, xt03, xt10, xt11, xt12, xt13, xt20, xt21, xt22, xt23, xt30, xt31, xt32, xt33]
theorem col1 (a0 a2 a3 a4 a5 : Int) (b0 b1 b2 b3 : Bool) : stp b3 7 (stp b2 6 (stp b1 5 (stp b0 4 [a0, 0, a2, a3, a4, a5]))) = [a0, sg b1 b2 b3, a2, a3, a4, a5] := by
  cases b0 <;> cases b1 <;> cases b2 <;> cases b3 <;> simp [stp, colSet, sg, xt00, xt01, xt02, xt03, xt10, xt11, xt12, xt13, xt20, xt21, xt22, xt23, xt30, xt31, xt32, xt33]
theorem col2 (a0 a1 a3 a4 a5 : Int) (b0 b1 b2 b3 : Bool) : stp b3 11 (stp b2 10 (stp b1 9 (stp b0 8 [a0, a1, 0, a3, a4, a5]))) = [a0, a1, sg b1 b2 b3, a3, a4, a5] := by
  cases b0 <;> cases b1 <;> cases b2 <;> cases b3 <;> simp [stp, colSet, sg, xt00, xt01, xt02, xt03, xt10, xt11, xt12, xt13, xt20, xt21, xt22, xt23, xt30, xt31, xt32, xt33]
theorem col3 (a0 a1 a2 a4 a5 : Int) (b0 b1 b2 b3 : Bool) : stp b3 15 (stp b2 14 (stp b1 13 (stp b0 12 [a0, a1, a2, 0, a4, a5]))) = [a0, a1, a2, sg b1 b2 b3, a4, a5] := by
  cases b0 <;> cases b1 <;> cases b2 <;> cases b3 <;> simp [stp, colSet, sg, xt00, xt01, xt02, xt03, xt10, xt11, xt12, xt13, xt20, xt21, xt22, xt23, xt30, xt31, xt32, xt33]
theorem col4 (a0 a1 a2 a3 a5 : Int) (b0 b1 b2 b3 : Bool) : stp b3 19 (stp b2 18 (stp b1 17 (stp b0 16 [a0, a1, a2, a3, 0, a5]))) = [a0, a1, a2, a3, sg b1 b2 b3, a5] := by
  cases b0 <;> cases b1 <;> cases b2 <;> cases b3 <;> simp [stp, colSet, sg, xt00, xt01, xt02, xt03, xt10, xt11, xt12, xt13, xt20, xt21, xt22, xt23, xt30, xt31, xt32, xt33]
theorem col5 (a0 a1 a2 a3 a4 : Int) (b0 b1 b2 b3 : Bool) : stp b3 23 (stp b2 22 (stp b1 21 (stp b0 20 [a0, a1, a2, a3, a4, 0]))) = [a0, a1, a2, a3, a4, sg b1 b2 b3] := by
  cases b0 <;> cases b1 <;> cases b2 <;> cases b3 <;> simp [stp, colSet, sg, xt00, xt01, xt02, xt03, xt10, xt11, xt12, xt13, xt20, xt21, xt22, xt23, xt30, xt31, xt32, xt33]
theorem fold_Lp {β : Type} (f : β → Int → β) (z : β) (p : Nat → Bool) : (Lp p).foldl f z = (List.range 24).foldl (fun acc i => if p i then f acc i else acc) z := by
  unfold Lp
  rw [List.foldl_map, List.foldl_filter]
theorem colSigns_Lp (p : Nat → Bool) : colSigns (Lp p) = [sgn p 0, sgn p 1, sgn p 2, sgn p 3, sgn p 4, sgn p 5] := by
  unfold colSigns
  rw [fold_Lp]
  show stp (p 23) 23 (stp (p 22) 22 (stp (p 21) 21 (stp (p 20) 20 (stp (p 19) 19 (stp (p 18) 18 (stp (p 17) 17 (stp (p 16) 16 (stp (p 15) 15 (stp (p 14) 14 (stp (p 13) 13 (stp (p 12) 12
    (stp (p 11) 11 (stp (p 10) 10 (stp (p 9) 9 (stp (p 8) 8 (stp (p 7) 7 (stp (p 6) 6 (stp (p 5) 5 (stp (p 4) 4 (stp (p 3) 3 (stp (p 2) 2 (stp (p 1) 1 (stp (p 0) 0 [0, 0, 0, 0, 0, 0]))))))))))))))))))))))) = _
  rw [col0, col1, col2, col3, col4, col5]
  rfl

/-! ### parities -/
theorem filter_Lp (q : Int → Bool) (p : Nat → Bool) : (Lp p).filter q = (((List.range 24).filter fun i : Nat => q (i : Int)).filter p).map fun i : Nat => (i : Int) := by
  unfold Lp
  rw [List.filter_map, List.filter_filter, List.filter_filter]
  congr 1
  exact List.filter_congr fun i _ => Bool.and_comm _ _
theorem flen (p : Nat → Bool) : ∀ l : List Nat, ((((l.filter p).map fun i : Nat => (i : Int)).length : Nat) : Int) % 2 = b2 (l.foldr (fun a acc => p a ^^ acc) false)
  | [] => rfl
  | a :: l => by
    have ih := flen p l
    rw [List.length_map] at ih ⊢
    rw [List.filter_cons, List.foldr_cons]
    generalize List.foldr (fun a acc => p a ^^ acc) false l = r at ih ⊢
    cases hp : p a with
    | false =>
      rw [if_neg Bool.false_ne_true, ih, Bool.false_xor]
    | true =>
      rw [if_pos rfl, List.length_cons]
      cases r with
      | false =>
        have ih2 : (((List.filter p l).length : Nat) : Int) % 2 = 0 := ih
        show (((List.filter p l).length + 1 : Nat) : Int) % 2 = 1
        omega
      | true =>
        have ih2 : (((List.filter p l).length : Nat) : Int) % 2 = 1 := ih
        show (((List.filter p l).length + 1 : Nat) : Int) % 2 = 0
        omega
theorem len4 (p : Nat → Bool) (a b c d : Nat) : (((([a, b, c, d].filter p).map fun i : Nat => (i : Int)).length : Nat) : Int) % 2 = b2 (p a ^^ p b ^^ p c ^^ p d) := by
  rw [flen]
  show b2 (p a ^^ (p b ^^ (p c ^^ (p d ^^ false)))) = _
  cases p a <;> cases p b <;> cases p c <;> cases p d <;> rfl
theorem len6 (p : Nat → Bool) (a b c d e f : Nat) : (((([a, b, c, d, e, f].filter p).map fun i : Nat => (i : Int)).length : Nat) : Int) % 2 = b2 (p a ^^ p b ^^ p c ^^ p d ^^ p e ^^ p f) := by
  rw [flen]
  show b2 (p a ^^ (p b ^^ (p c ^^ (p d ^^ (p e ^^ (p f ^^ false)))))) = _
  cases p a <;> cases p b <;> cases p c <;> cases p d <;> cases p e <;> cases p f <;> rfl
theorem colLen (p : Nat → Bool) {c : Nat} (h : c < 6) : ((((Lp p).filter fun l => decide (l / 4 = (c : Int))).length : Nat) : Int) % 2 = b2 (par p c) := by
  rw [filter_Lp]
  have e : (List.range 24).filter (fun i : Nat => decide (((i : Int)) / 4 = (c : Int))) = [4 * c, 4 * c + 1, 4 * c + 2, 4 * c + 3] := by
    have : c = 0 ∨ c = 1 ∨ c = 2 ∨ c = 3 ∨ c = 4 ∨ c = 5 := by omega
    rcases this with rfl | rfl | rfl | rfl | rfl | rfl <;> decide +kernel
  rw [e, len4]
  rfl
theorem topLen (p : Nat → Bool) : ((((Lp p).filter fun l => decide (l % 4 = 0)).length : Nat) : Int) % 2 = b2 (top p) := by
  rw [filter_Lp, show (List.range 24).filter (fun i : Nat => decide (((i : Int)) % 4 = 0)) = [0, 4, 8, 12, 16, 20] by decide +kernel, len6]
  rfl
def parB (p : Nat → Bool) : List Bool := [par p 0, par p 1, par p 2, par p 3, par p 4, par p 5, top p]
theorem parV_Lp (p : Nat → Bool) : parV (Lp p) = (parB p).map b2 := by
  unfold parV
  have e : (List.range 6).map (fun c : Nat => ((((Lp p).filter fun l => decide (l / 4 = (c : Int))).length : Nat) : Int) % 2) = (List.range 6).map fun c => b2 (par p c) :=
    List.map_congr_left fun c hc => colLen p (List.mem_range.mp hc)
  rw [e, topLen]
  rfl
def allEq (p : Nat → Bool) : Bool := (List.range 6).all fun c => par p c == top p
/-- the set of the parities: one member if all are one, else two -/
theorem parSet (p : Nat → Bool) : ∃ ks : List Int, ks.Nodup ∧ (∀ k, k ∈ ks ↔ k ∈ (parB p).map b2) ∧ decide ((ks.length : Int) = 1) = allEq p := by
  have go : ∀ b0 b1 b2' b3 b4 b5 t : Bool, ∃ ks : List Int, ks.Nodup ∧ (∀ k, k ∈ ks ↔ k ∈ [b0, b1, b2', b3, b4, b5, t].map b2) ∧ decide ((ks.length : Int) = 1) = ([b0, b1, b2', b3, b4, b5].all fun b => b == t) := by
    intro b0 b1 b2' b3 b4 b5 t
    by_cases hall : ([b0, b1, b2', b3, b4, b5].all fun b => b == t) = true
    · refine ⟨[b2 t], by simp, fun k => ?_, by rw [hall]; rfl⟩
      have h := List.all_eq_true.mp hall
      constructor
      · intro hk
        rw [List.mem_singleton.mp hk]
        exact List.mem_map.mpr ⟨t, by simp, rfl⟩
      · intro hk
        obtain ⟨b, hb, rfl⟩ := List.mem_map.mp hk
        have : b = t := by
          have hb' : b ∈ [b0, b1, b2', b3, b4, b5] ∨ b = t := by
            rw [show [b0, b1, b2', b3, b4, b5, t] = [b0, b1, b2', b3, b4, b5] ++ [t] from rfl] at hb
            rcases List.mem_append.mp hb with z | z
            · exact .inl z
            · exact .inr (List.mem_singleton.mp z)
          rcases hb' with hb' | hb'
          · exact eq_of_beq (h b hb')
          · exact hb'
        rw [this]
        exact List.mem_singleton.mpr rfl
    · refine ⟨[0, 1], by decide, fun k => ?_, by rw [Bool.not_eq_true _ |>.mp hall]; rfl⟩
      have hn : ∃ b ∈ [b0, b1, b2', b3, b4, b5], b ≠ t := by
        apply Classical.byContradiction
        intro hc
        apply hall
        rw [List.all_eq_true]
        intro b hb
        apply Classical.byContradiction
        intro hbt
        exact hc ⟨b, hb, fun z => hbt (by rw [z]; simp)⟩
      obtain ⟨b, hb, hbt⟩ := hn
      have mb : b ∈ [b0, b1, b2', b3, b4, b5, t] := by
        simp only [List.mem_cons, List.not_mem_nil, or_false] at hb ⊢
        rcases hb with h | h | h | h | h | h <;> simp [h]
      have mt : t ∈ [b0, b1, b2', b3, b4, b5, t] := by simp
      have both : false ∈ [b0, b1, b2', b3, b4, b5, t] ∧ true ∈ [b0, b1, b2', b3, b4, b5, t] := by
        generalize [b0, b1, b2', b3, b4, b5, t] = xs at mb mt ⊢
        cases b <;> cases t
        · exact absurd rfl hbt
        · exact ⟨mb, mt⟩
        · exact ⟨mt, mb⟩
        · exact absurd rfl hbt
      constructor
      · intro hk
        simp only [List.mem_cons, List.not_mem_nil, or_false] at hk
        rcases hk with rfl | rfl
        · exact List.mem_map.mpr ⟨false, both.1, rfl⟩
        · exact List.mem_map.mpr ⟨true, both.2, rfl⟩
      · intro hk
        obtain ⟨c, _, rfl⟩ := List.mem_map.mp hk
        cases c <;> decide
  exact go _ _ _ _ _ _ _
def wordB (p : Nat → Bool) : Bool := decide (wordP (sgn p 0) (sgn p 1) (sgn p 2) = [sgn p 0, sgn p 1, sgn p 2, sgn p 3, sgn p 4, sgn p 5])
/-- whether the lot of p is right -/
def rightB (p : Nat → Bool) : Bool := allEq p && wordB p
end Lo
/-! A7: the sum of a tuple. -/
namespace Lo
open PySem PySem.Spec L2 Evl PyProof.Rows

def rSumT (K : PySem.W.Frag) : List V → Hp → VK → Prop := fun vs H Q => ∃ (a : Addr) (ns : List Int), vs = [V.ref a] ∧ SqT K H a (ns.map V.int) ∧ Q (.int ns.sum) H
theorem cr_sumT {X : Cx} (hc : X.calm = true) : CallR X (.builtin "sum") (rSumT X.K) := by
  intro pins s σ H vs us Q I r h
  obtain ⟨a, ns, rfl, hs, q⟩ := h
  obtain ⟨its, rv, p, hz⟩ := I.tuple hs
  rw [Vals.ref1 r]
  obtain ⟨xs, e⟩ := rv.ints.allInts.items
  have hn : numsOf (intItems xs).toList = ns := by rw [← e]; exact rv.ints.numsOf
  rw [nums_intItems] at hn
  have p' : s.heap.IsTuple a its.toArray := p
  rw [e] at p'
  refine PySem.W.ktm_sumG (I.ok.hd hc) p' fun h' tk t' hk => ?_
  rw [preSum_eq, List.take_of_length_le (by simp), hn]
  exact ⟨.int _, H, I.kept hk, ⟨_, rfl⟩, q⟩
theorem pSumT {X : Cx} {a : Expr} {ta : TE} {p pos : Pos} (T : Blt X.mg) (hc : X.calm = true) (ha : PE X a ta) (hg : Gl X "sum" := by rfl) (h1 : starEach [a] X.env = (false, eval a X.env) :: starEach [] X.env := by rfl) : PE X (.Call (.Name "sum" p) [a] [] pos) (tCB (rSumT X.K) (tCons ta tNil)) :=
  pe_callB (cr_sumT hc) hg T.sum PyProof.Rows.boot_sum (pa_cons ha pa_nil h1) (by decide) (by decide) h1
theorem rc_sumT {K : PySem.W.Frag} {ns : List Int} : RDC K (rSumT K) [ti ns] (.int ns.sum) := fun A vs h Q q => by
  obtain ⟨v, rfl, hv⟩ := h.one
  cases hv with
  | tup hs ha =>
    have e := ha.ints_inv
    subst e
    exact ⟨_, ns, rfl, ex_t A.ex hs, q _ A (Pr.refl A) (.int _)⟩
end Lo
/-! D5: rightlots.py, the rule of longs.py. -/
namespace Lo
open PySem PySem.Spec L2 Evl PyProof.Rows

section
variable {P : Program} {w : World} {K : PySem.W.Frag} {mg : Str → Option Value} {base : Heap}
def RIsRight (ds : List PyData) (d : PyData) : Prop := ∃ p : Nat → Bool, ds = [ti (Lp p)] ∧ d = .bool (rightB p)
theorem ok_is_right (F : FunM K mg "is_right" sIsRight) (T : Blt mg) (G1 : Dfn P w K mg base CX0 2 "parities" ["lot"] (spD K RParities)) (G2 : Dfn P w K mg base CX0 5 "is_word" ["thing"] (spD K RIsWord))
    (G3 : Dfn P w K mg base CX0 1 "column_signs" ["lot"] (spD K RColumnSigns)) : Dfn P w K mg base CX0 6 "is_right" ["lot"] (spD K RIsRight) := by
  refine dfn_of F scIsRight (fun _ _ _ _ _ _ us hl => match us, hl with | [_], _ => rfl) (fun ds d ⟨_, h, _⟩ => by rw [h]; rfl) ?_
  rintro f cdv A outer s H E hr ds d ⟨p, rfl, rfl⟩
  refine ⟨_, pss_one (ps_ret (pe_and (pe_cmpR (op_eqD hr.units) (pe_lenSetT rfl (by rfl) T.len (by rfl) T.set (pc G1 (hr.mono (by decide)) (pa_cons (pv 0) pa_nil))) pe_int (nomark _))
    (pe_one (pc G2 hr (pa_cons (pc G3 (hr.mono (by decide)) (pa_cons (pv 0) pa_nil)) pa_nil))))), ?_⟩
  obtain ⟨ks, nd, hm, hk⟩ := parSet p
  have hl := len_Lp p
  have e1 : EvD K (tCall (spD K RParities) [] E0 (tCons (tVar 0) tNil)) [some (ti (Lp p))] (ti ((parB p).map b2)) := by
    rw [← parV_Lp]
    exact d_call (da_cons (d_var rfl) da_nil) ⟨Lp p, by omega, rfl, rfl⟩
  refine s_ret (EvD.to (d_andV (b := allEq p) (c := wordB p) (EvD.to (d_op (d_lenSet e1 (by simp [parB]) nd hm) d_int rd_eqI) (by rw [hk])) fun _ => d_call (da_cons (d_call (da_cons (d_var rfl) da_nil) ⟨Lp p, by omega, fun l h => mem_Lp h, rfl, rfl⟩) da_nil) ?_) rfl)
  rw [colSigns_Lp]
  refine ⟨_, rfl, ?_, rfl, rfl⟩
  intro n hn
  simp only [List.mem_cons, List.not_mem_nil, or_false] at hn
  rcases hn with rfl | rfl | rfl | rfl | rfl | rfl <;> exact sg_Sg _ _ _

/-! ### rows -/
def RPlainT (ds : List PyData) (d : PyData) : Prop := ∃ ns : List Int, ns.length = 24 ∧ ds = [ti ns] ∧ d = .bool true
def RPlain (ds : List PyData) (d : PyData) : Prop := ∃ ns : List Int, ns.length = 24 ∧ ((ds = [ti ns] ∧ d = .bool true) ∨ (ds = [li ns] ∧ d = .bool false))
theorem ok_is_plain_row (F : FunM K mg "is_plain_row" sIsPlainRow) (T : Blt mg) (C : Cst K mg) (G1 : Dfn P w K mg base CX0 1 "is_tuple_of" ["thing", "size"] (spD K RIsTupleOf)) (G2 : Dfn P w K mg base CX0 1 "is_number" ["thing"] (spD K RIsNumber)) :
    Dfn P w K mg base CX0 2 "is_plain_row" ["thing"] (spD K RPlain) := by
  refine dfn_of F scIsPlainRow (fun _ _ _ _ _ _ us hl => match us, hl with | [_], _ => rfl) (fun ds d ⟨_, _, h⟩ => by rcases h with ⟨h, _⟩ | ⟨h, _⟩ <;> (rw [h]; rfl)) ?_
  rintro f cdv A outer s H E hr ds d ⟨ns, hl, h⟩
  rcases h with ⟨rfl, rfl⟩ | ⟨rfl, rfl⟩
  · refine ⟨_, pss_one (ps_ret (pe_and (pc G1 hr (pa_cons (pv 0) (pa_cons (gLamps C) pa_nil))) (pe_one (pAll T rfl
        (pe_lc (own := [("own", 1)]) (g := gName 1) (tt := tYes) rfl scIsPlainRow.nd (pi_tup (pv 0)) (blkOk_by (N := nIsPlainRow) (sc := defScope sIsPlainRow) (by decide +kernel))
          (fun _ _ _ _ _ => pg_name (i := 1) scIsPlainRow.nd rfl (Or.inl rfl)) (fun _ _ _ _ _ => pts_nil) (fun _ _ _ _ _ => pc G2 hr (pa_cons (pv 1) pa_nil))))))), ?_⟩
    have h1 : tupOf 24 (ti ns) = true := by
      show decide (((ns.map PyData.int).length : Int) = 24) = true
      rw [List.length_map, hl]
      rfl
    have h2 : ((List.range ns.length).all fun i => true) = true := by simp
    refine s_ret (EvD.to (d_andV (d_call (da_cons (d_var rfl) (da_cons d_int da_nil)) ⟨ti ns, 24, rfl, rfl, rfl⟩) fun _ => d_all (f := fun i => true) (d_lc (w_tupI (n := 1) (d_var rfl)) (by omega)
      (fun i p hp => by rw [List.mem_singleton.mp hp]; simp) (fun i hi => b_yes) fun i hi _ => d_call (da_cons (d_var rfl) da_nil) ⟨_, rfl, rfl⟩)) ?_)
    rw [h1, h2]
    rfl
  · refine ⟨_, pss_one (ps_ret (pe_and (pc G1 hr (pa_cons (pv 0) (pa_cons (gLamps C) pa_nil))) (pe_one pe_nv))), ?_⟩
    exact s_ret (d_andV (b := false) (c := false) (d_call (da_cons (d_var rfl) (da_cons d_int da_nil)) ⟨li ns, 24, rfl, rfl, rfl⟩) fun z => nomatch z)
def RSurePlain (ds : List PyData) (d : PyData) : Prop := ∃ ns : List Int, ns.length = 24 ∧ (ds = [ti ns] ∨ ds = [li ns]) ∧ d = ti ns
theorem ok_sure_plain_row (F : FunM K mg "sure_plain_row" sSurePlainRow) (G1 : Dfn P w K mg base CX0 2 "tupled" ["thing"] (spD K RTup)) (G2 : Dfn P w K mg base CX0 2 "is_plain_row" ["thing"] (spD K RPlain)) :
    Dfn P w K mg base CX0 3 "sure_plain_row" ["row"] (spD K RSurePlain) := by
  refine dfn_of F scSurePlainRow (fun _ _ _ _ _ _ us hl => match us, hl with | [_], _ => rfl) (fun ds d ⟨_, _, h, _⟩ => by rcases h with h | h <;> (rw [h]; rfl)) ?_
  rintro f cdv A outer s H E hr ds d ⟨ns, hl, h, rfl⟩
  refine ⟨_, pss_cons (ps_set (i := 1) scSurePlainRow.nd rfl (Or.inl rfl) (pc G1 hr (pa_cons (pv 0) pa_nil))) (pss_cons (ps_if (pt_not (pt_val (pc G2 hr (pa_cons (pv 1) pa_nil)))) (pss_one ps_never) pss_nil) (pss_one (ps_ret (pv 1)))), ?_⟩
  have e2 : ∀ x : PyData, EvB K (tNot (tB (tCall (spD K RPlain) [] E0 (tCons (tVar 1) tNil)))) [some x, some (ti ns)] false := fun x => b_not (b := true) (b_B (d_call (da_cons (d_var rfl) da_nil) ⟨ns, hl, .inl ⟨rfl, rfl⟩⟩))
  rcases h with rfl | rfl
  · exact s_seq (s_set (d_call (da_cons (d_var rfl) da_nil) ⟨ns, by omega, .inl rfl, rfl⟩)) (s_seq (s_ifF (e2 _) s_next) (s_ret (d_var rfl)))
  · exact s_seq (s_set (d_call (da_cons (d_var rfl) da_nil) ⟨ns, by omega, .inr rfl, rfl⟩)) (s_seq (s_ifF (e2 _) s_next) (s_ret (d_var rfl)))
def mixedP (ns : List Int) : Option Nat := (List.range ns.length).find? fun i => !decide (ns.getD i 0 % 2 = ns.getD 0 0 % 2)
def mixedD (ns : List Int) : PyData := match mixedP ns with
  | some i => .int (i : Nat)
  | none => .none
def RMixed (ds : List PyData) (d : PyData) : Prop := ∃ ns : List Int, ns.length = 24 ∧ ds = [ti ns] ∧ d = mixedD ns
theorem rd_at0 {ns : List Int} (h : 0 < ns.length) : RD K (rIxT K) (ti ns) (.int 0) (.int (ns.getD 0 0)) := rd_at (i := 0) h
theorem ok_mixed_place (F : FunM K mg "mixed_place" sMixedPlace) (T : Blt mg) : Dfn P w K mg base CX0 1 "mixed_place" ["row"] (spD K RMixed) := by
  refine dfn_of F scMixedPlace (fun _ _ _ _ _ _ us hl => match us, hl with | [_], _ => rfl) (fun ds d ⟨_, _, h, _⟩ => by rw [h]; rfl) ?_
  rintro f cdv A outer s H E hr ds d ⟨ns, hl, rfl, rfl⟩
  refine ⟨_, pss_cons (ps_for PassesOwn.never rfl (pi_enumT (by rfl) T.enum (pa_cons (pv 0) pa_nil)) (pg_tup rfl (pgs_cons (pg_name (i := 1) scMixedPlace.nd rfl (Or.inl rfl)) (pgs_cons (pg_name (i := 2) scMixedPlace.nd rfl (Or.inl rfl)) pgs_nil)))
    (pss_one (ps_if (pt_cmpR (op_neD hr.units) (pe_op op_mod (pv 2) pe_int) (pe_op op_mod (pe_ix ix_tup (pv 0) pe_int (fun _ _ => rfl)) pe_int) (nomark _)) (pss_one (ps_ret (pv 1))) pss_nil))) (pss_one (ps_ret pe_non)), ?_⟩
  have m2 : (0 : Int) < 2 := by decide
  have src := w_enumI (K := K) (m := 1) (n := 2) (ns := ns) (δ := [some (ti ns), none, none]) (da_cons (d_var (i := 0) rfl) da_nil)
  have test : ∀ i : Nat, EvB K (tTest (tOp (rNeD K) (tOp (rI (fun _ j => 0 < j) fun i j => .int (i % j)) (tVar 2) (tC (.int 2))) (tOp (rI (fun _ j => 0 < j) fun i j => .int (i % j)) (tOp (rIxT K) (tVar 0) (tC (.int 0))) (tC (.int 2)))))
      [some (ti ns), some (.int (i : Nat)), some (.int (ns.getD i 0))] (!decide (ns.getD i 0 % 2 = ns.getD 0 0 % 2)) := fun i =>
    b_test (d_op (d_op (d_var rfl) d_int (rd_intC (f := fun i j => i % j) m2)) (d_op (d_op (d_var rfl) d_int (rd_at0 (by omega))) d_int (rd_intC (f := fun i j => i % j) m2)) rd_neI)
  have go : ∀ i : Nat, (!decide (ns.getD i 0 % 2 = ns.getD 0 0 % 2)) = false → StD K (tIfS (tTest (tOp (rNeD K) (tOp (rI (fun _ j => 0 < j) fun i j => .int (i % j)) (tVar 2) (tC (.int 2))) (tOp (rI (fun _ j => 0 < j) fun i j => .int (i % j)) (tOp (rIxT K) (tVar 0) (tC (.int 0))) (tC (.int 2))))) (tRet (tVar 1)) tNext)
      (sets [some (ti ns), none, none] [(1, .int (i : Nat)), (2, .int (ns.getD i 0))]) (.next [some (ti ns), none, none]) := fun i hi => by
    refine s_fgt (s_ifF (EvB.to (test i) hi) s_next) ?_
    exact (Fgt.set [some (ti ns), some (.int (i : Nat)), some (.int (ns.getD i 0))] 2).trans (Fgt.set [some (ti ns), some (.int (i : Nat)), none] 1)
  cases hp : mixedP ns with
  | some m =>
    obtain ⟨h1, h2, h3⟩ := List.find?_range_eq_some.mp hp
    have e : mixedD ns = .int (m : Nat) := by unfold mixedD; rw [hp]
    rw [e]
    refine s_seqR (s_forR (fun _ => [some (ti ns), none, none]) m (List.mem_range.mp h2) src (Fgt.refl _) (fun i hi => go i ?_) (s_ifT (EvB.to (test m) h1) (s_ret (d_var rfl))))
    exact Bool.eq_false_iff.mpr fun z => by
      have := h3 i hi
      rw [z] at this
      cases this
  | none =>
    have e : mixedD ns = .none := by unfold mixedD; rw [hp]
    have h := List.find?_eq_none.mp hp
    rw [e]
    exact s_seq (s_for (fun _ => [some (ti ns), none, none]) src (Fgt.refl _) fun i hi => go i (Bool.eq_false_iff.mpr (h i (List.mem_range.mpr hi)))) (s_ret d_non)
def oddB (ns : List Int) (i : Nat) : Bool := decide ((ns.getD i 0 - ns.getD 0 0 % 2) / 2 % 2 = 1)
def ROdd (ds : List PyData) (d : PyData) : Prop := ∃ ns : List Int, ns.length = 24 ∧ ds = [ti ns] ∧ d = ti (Lp (oddB ns))
theorem given_Lp (p : Nat → Bool) : givenD 24 p (fun i => .int (i : Nat)) = (Lp p).map PyData.int := by
  unfold givenD Lp
  rw [List.map_map]
  rfl
theorem ok_odd_halves (F : FunM K mg "odd_halves" sOddHalves) (T : Blt mg) : Dfn P w K mg base CX0 1 "odd_halves" ["row"] (spD K ROdd) := by
  refine dfn_of F scOddHalves (fun _ _ _ _ _ _ us hl => match us, hl with | [_], _ => rfl) (fun ds d ⟨_, _, h, _⟩ => by rw [h]; rfl) ?_
  rintro f cdv A outer s H E hr ds d ⟨ns, hl, rfl, rfl⟩
  refine ⟨_, pss_one (ps_ret (pTup T (pe_lc (own := [("place", 1), ("own", 2)]) (g := gTup K 2 (gCons (gName 1) (gCons (gName 2) gNil))) rfl scOddHalves.nd (pi_enumT (by rfl) T.enum (pa_cons (pv 0) pa_nil))
    (blkOk_by (N := nOddHalves) (sc := defScope sOddHalves) (by decide +kernel)) (fun _ _ _ _ _ => pg_tup rfl (pgs_cons (pg_name (i := 1) scOddHalves.nd rfl (Or.inl rfl)) (pgs_cons (pg_name (i := 2) scOddHalves.nd rfl (Or.inl rfl)) pgs_nil)))
    (fun _ _ _ _ _ => pts_one (pt_cmpR (eqK K hr.units) (pe_op op_mod (pe_op op_fdiv (pe_op op_sub (pv 2) (pe_op op_mod (pe_ix (ixTK K) (pv 0) pe_int (fun _ _ => rfl)) pe_int)) pe_int) pe_int) pe_int (nomark _))) (fun _ _ _ _ _ => pv 1)))), ?_⟩
  have m2 : (0 : Int) < 2 := by decide
  have src := w_enumI (K := K) (m := 1) (n := 2) (ns := ns) (δ := [some (ti ns), none, none]) (da_cons (d_var (i := 0) rfl) da_nil)
  rw [hl] at src
  refine s_ret (d_cb (da_cons (EvD.to (z := li (Lp (oddB ns))) (d_lc src (by decide) (fun i p hp => ?_) (fun i hi => b_test (d_op (d_op (d_op (d_op (d_var rfl) (d_op (d_op (d_var rfl) d_int (rd_at0 (by omega))) d_int (rd_intC (f := fun i j => i % j) m2)) rd_int) d_int (rd_intC ⟨by decide, by decide⟩)) d_int (rd_intC (f := fun i j => i % j) m2)) d_int rd_eqI)) (fun i hi _ => d_var rfl))
    (congrArg PyData.list (given_Lp (oddB ns)))) da_nil) rc_tupL)
  rcases List.mem_cons.mp hp with rfl | hp
  · exact List.mem_cons_self
  · rw [List.mem_singleton.mp hp]
    simp
def restI (ns : List Int) : Int := (ns.sum - 4 * (ns.getD 0 0 % 2)) % 8
def breakD (ns : List Int) : PyData := match mixedP ns with
  | some i => .tuple [.str "mixed", .int (i : Nat)]
  | none => if rightB (oddB ns) = true then (if restI ns = 0 then .none else .tuple [.str "sum", .int (restI ns)]) else .tuple [.str "lot", ti (Lp (oddB ns))]
def RBreak (ds : List PyData) (d : PyData) : Prop := ∃ ns : List Int, ns.length = 24 ∧ ds = [ti ns] ∧ d = breakD ns
theorem ok_row_break (F : FunM K mg "row_break" sRowBreak) (T : Blt mg) (G1 : Dfn P w K mg base CX0 1 "mixed_place" ["row"] (spD K RMixed)) (G2 : Dfn P w K mg base CX0 1 "odd_halves" ["row"] (spD K ROdd)) (G3 : Dfn P w K mg base CX0 6 "is_right" ["lot"] (spD K RIsRight)) :
    Dfn P w K mg base CX0 7 "row_break" ["row"] (spD K RBreak) := by
  refine dfn_of F scRowBreak (fun _ _ _ _ _ _ us hl => match us, hl with | [_], _ => rfl) (fun ds d ⟨_, _, h, _⟩ => by rw [h]; rfl) ?_
  rintro f cdv A outer s H E hr ds d ⟨ns, hl, rfl, rfl⟩
  refine ⟨_, pss_cons (ps_set (i := 1) scRowBreak.nd rfl (Or.inl rfl) (pc G1 (hr.mono (by decide)) (pa_cons (pv 0) pa_nil))) (pss_cons (ps_if (pt_cmpR op_notN (pv 1) pe_non (nomark _)) (pss_one (ps_ret (pe_tup (pa_cons pe_str (pa_cons (pv 1) pa_nil))))) pss_nil)
    (pss_cons (ps_set (i := 2) scRowBreak.nd rfl (Or.inl rfl) (pc G2 (hr.mono (by decide)) (pa_cons (pv 0) pa_nil))) (pss_cons (ps_if (pt_not (pt_val (pc G3 hr (pa_cons (pv 2) pa_nil)))) (pss_one (ps_ret (pe_tup (pa_cons pe_str (pa_cons (pv 2) pa_nil))))) pss_nil)
    (pss_cons (ps_set (i := 3) scRowBreak.nd rfl (Or.inl rfl) (pe_op op_mod (pe_op op_sub (pSumT T rfl (pv 0)) (pe_op op_mul pe_int (pe_op op_mod (pe_ix ix_tup (pv 0) pe_int (fun _ _ => rfl)) pe_int))) pe_int))
    (pss_one (ps_ret (pe_ifExp (pt_cmpR (op_neD hr.units) (pv 3) pe_int (nomark _)) (pe_tup (pa_cons pe_str (pa_cons (pv 3) pa_nil))) pe_non))))))), ?_⟩
  have m2 : (0 : Int) < 2 := by decide
  have m8 : (0 : Int) < 8 := by decide
  have two : ∀ a b : PyData, [a, b].length ≤ 100000 := fun a b => by show (2 : Nat) ≤ 100000; decide
  refine s_seq (s_set (d_call (da_cons (d_var rfl) da_nil) ⟨ns, hl, rfl, rfl⟩)) ?_
  cases hp : mixedP ns with
  | some m =>
    have e : mixedD ns = .int (m : Nat) := by unfold mixedD; rw [hp]
    have e2 : breakD ns = .tuple [.str "mixed", .int (m : Nat)] := by unfold breakD; rw [hp]
    rw [e, e2]
    exact s_seqR (s_ifT (b_test (EvD.to (d_op (d_var rfl) d_non rd_notN) rfl)) (s_ret (d_tup (da_cons d_str (da_cons (d_var rfl) da_nil)) (two _ _))))
  | none =>
    have e : mixedD ns = .none := by unfold mixedD; rw [hp]
    rw [e]
    refine s_seq (s_ifF (b_test (EvD.to (d_op (d_var rfl) d_non rd_notN) rfl)) s_next) (s_seq (s_set (d_call (da_cons (d_var rfl) da_nil) ⟨ns, hl, rfl, rfl⟩)) ?_)
    cases hrt : rightB (oddB ns) with
    | false =>
      have e2 : breakD ns = .tuple [.str "lot", ti (Lp (oddB ns))] := by unfold breakD; rw [hp, hrt]; rfl
      rw [e2]
      refine s_seqR (s_ifT (EvB.to (b_not (b_B (d_call (da_cons (d_var rfl) da_nil) ⟨oddB ns, rfl, rfl⟩))) ?_) (s_ret (d_tup (da_cons d_str (da_cons (d_var rfl) da_nil)) (two _ _))))
      rw [hrt]
      rfl
    | true =>
      have e2 : breakD ns = if restI ns = 0 then .none else .tuple [.str "sum", .int (restI ns)] := by unfold breakD; rw [hp, hrt]; rfl
      rw [e2]
      refine s_seq (s_ifF (EvB.to (b_not (b_B (d_call (da_cons (d_var rfl) da_nil) ⟨oddB ns, rfl, rfl⟩))) ?_) s_next) (s_seq (s_set (d_op (d_op (d_cb (da_cons (d_var rfl) da_nil) rc_sumT) (d_op d_int (d_op (d_op (d_var rfl) d_int (rd_at0 (by omega))) d_int (rd_intC (f := fun i j => i % j) m2)) (rd_intC (.inl ⟨by decide, by decide⟩))) rd_int) d_int (rd_intC (f := fun i j => i % j) m8))) ?_)
      · rw [hrt]
        rfl
      · have e3 : (ns.sum - 4 * (ns.getD 0 0 % 2)) % 8 = restI ns := rfl
        rw [e3]
        refine s_ret (d_if (b := !decide (restI ns = 0)) (b_test (d_op (d_var rfl) d_int rd_neI)) (fun hb => ?_) fun hb => ?_)
        · have h0 : ¬ restI ns = 0 := by simpa using hb
          rw [if_neg h0]
          exact d_tup (da_cons d_str (da_cons (d_var rfl) da_nil)) (two _ _)
        · have h0 : restI ns = 0 := by simpa using hb
          rw [if_pos h0]
          exact d_non
end
end Lo
/-! A8: defs that raise. -/
namespace Lo
open PySem PySem.Spec L2 Evl PyProof.Rows

/-- what a class of the text's exceptions must say -/
structure Exn (K : PySem.W.Frag) (mg : Str → Option Value) (x : Str) (C : Addr) : Prop where
  gl : mg x = some (.ref C)
  q : PySem.W.excIn K C He.veBase "ValueError.__new__" = true
  kp : PySem.W.keepIn K (.ref C) = true
  sub : PySem.W.subIn K (.ref C) (.type "BaseException") = some true
  ty : PySem.W.typeIn K (.ref C) = some (.type "type")
  ec : ExcC K C
  ve : PySem.W.kitOne K (.ref C) (.type "ValueError") = some true
structure Exns (K : PySem.W.Frag) (mg : Str → Option Value) (U N W : Addr) : Prop where
  u : Exn K mg "Unfit" U
  n : Exn K mg "NoPaper" N
  w : Exn K mg "NoWay" W
  nn : PySem.W.exmOne K (.ref N) (.ref N) = some true
  wn : PySem.W.exmOne K (.ref W) (.ref N) = some false
  ww : PySem.W.exmOne K (.ref W) (.ref W) = some true
  un : PySem.W.exmOne K (.ref U) (.ref N) = some false
  uw : PySem.W.exmOne K (.ref U) (.ref W) = some false
  uu : PySem.W.exmOne K (.ref U) (.ref U) = some true
/-- a promise with exceptions: of arguments ds a value d (R), or an exception of the class c (RX) -/
def spX (K : PySem.W.Frag) (R : List PyData → PyData → Prop) (RX : List PyData → Value → Prop) : Sp := fun vs H Q E => ∃ (A : Hd) (ds : List PyData), A.h = H ∧ DaAll K A.k vs ds ∧
  ((∃ d, R ds d ∧ ∀ v B, Pr A B → Da K B.k v d → Q v B.h) ∨ ∃ c, RX ds c ∧ ∀ B, Pr A B → E c none B.h)
/-- a statement raises c -/
def RaD (K : PySem.W.Frag) (t : TS) (δ : De) (c : Value) (W : WX) : Prop := ∀ (σ : L2.St) (A : Hd), KnS K σ A.k δ → (∀ σ' B, Pr A B → W c none σ' B.h) → ∀ D : Ends, t D σ A.h
section
variable {K : PySem.W.Frag} {δ δ' : De} {c : Value} {W : WX} {t u : TS} {tt : TT}
theorem ra_new {C : Addr} : RaD K (fun _ σ H => (fun (_ : L2.St) (H : Hp) (Q : XK) => Q (.ref C) none H) σ H fun cls d H' => W cls d σ H') δ (.ref C) W := fun σ A k h D => h σ A (Pr.refl A)
theorem ra_newE {C : Addr} {E : XK} : RaD K (fun _ σ H => (fun (_ : L2.St) (H : Hp) (Q : XK) => Q (.ref C) none H) σ H fun cls d H' => E cls d H') δ (.ref C) (fun cls d _ H => E cls d H) := fun σ A k h D => h σ A (Pr.refl A)
theorem ra_seq (h1 : StD K t δ (.next δ')) (h2 : RaD K u δ' c W) : RaD K (tSeq t u) δ c W := fun σ A k h D => h1 σ A k { D with nx := u D } fun σ' B e k' => h2 σ' B k' (fun σ2 C e2 => h σ2 C (e.trans e2)) D
theorem ra_seqR (h1 : RaD K t δ c W) : RaD K (tSeq t u) δ c W := fun σ A k h D => h1 σ A k h { D with nx := u D }
theorem ra_ifT (h : EvB K tt δ true) (h1 : RaD K t δ c W) : RaD K (tIfS tt t u) δ c W := fun σ A k q D => h σ A k _ fun B e1 => iteT (h1 σ B (k.ex e1.k) (fun σ2 C e2 => q σ2 C (e1.trans e2)) D)
end
section
variable {P : Program} {w : World} {K : PySem.W.Frag} {mg : Str → Option Value} {base : Heap} {x : Str} {st : Stmt} {N ps : List Str} {k : Nat} {R : List PyData → PyData → Prop} {RX : List PyData → Value → Prop}
/-- a def that may raise, by its body -/
theorem dfnX_of (F : FunM K mg x st) (S : FnScope N ps (defScope st)) (hb : BindsBy x st ps) (len : ∀ ds d, R ds d → ds.length = ps.length) (lenX : ∀ ds c, RX ds c → ds.length = ps.length)
    (hbody : ∀ (f : Addr) (cdv : Value) (A : Around) (outer : List Env) (s : Shared) (H : Hp) (E : XK), Room k (A.deeper (envOfC x (defScope st) s.heap.objs.size f cdv)) → ∀ ds,
      ∃ t, PSs (cxOf (L2.CX P w) P w K mg base N x (defScope st) f cdv A outer s H E) (defBody st) t ∧ (∀ d, R ds d → StD K t (ds.map some ++ List.replicate (N.length - ds.length) none) (.ret d)) ∧
        ∀ c, RX ds c → RaD K t (ds.map some ++ List.replicate (N.length - ds.length) none) c fun cls d _ H => E cls d H) : Dfn P w K mg base (L2.CX P w) (k + 1) x ps (spX K R RX) := by
  obtain ⟨f, fd, F1, hm⟩ := F.ex
  refine ⟨f, fd, F1.okX S (fun vs H Q E h => ?_) (fun cdv A outer s H vs Q E hr h => ?_), hm, F1.kp, F1.binds hb⟩
  · obtain ⟨A, ds, _, ha, h⟩ := h
    rw [ha.len]
    rcases h with ⟨d, hR, _⟩ | ⟨c, hR, _⟩
    · exact len ds d hR
    · exact lenX ds c hR
  · obtain ⟨A', ds, rfl, ha, h⟩ := h
    obtain ⟨t, ht, hs, hx⟩ := hbody f cdv A outer s A'.h E hr ds
    refine ⟨t, ht, ?_⟩
    rcases h with ⟨d, hR, q⟩ | ⟨c, hR, q⟩
    · exact hs d hR _ A' (KnS.start ha) _ q
    · exact hx c hR _ A' (KnS.start ha) (fun _ B e => q B e) _
end
section
variable {X : Cx} {x : Str} {C : Addr} {E : XK} {p pos pos2 : Pos} {E₁ : Value → Shared → Prop}
/-- raise x() in a def of its own -/
theorem psRaise (e : Exn X.K X.mg x C) (hc : X.calm = true) (tk : Takes X (fun cls d _ H => E cls d H)) (hg : Gl X x) (hdb : (x == ("__debug__" : Str)) = false := by decide) :
    PS X (.Raise (some (.Call (.Name x p) [] [] pos)) none pos2) (fun _ σ H => (fun (_ : L2.St) (H : Hp) (Q : XK) => Q (.ref C) none H) σ H fun cls d H' => E cls d H') :=
  ps_raise (W := fun cls d _ H => E cls d H) hc tk (pmk0 PySem.F.excBase_ValueError e.q e.gl e.kp (raises_own e.sub e.ty) hg hdb)
end
end Lo
/-! D6: long rows (longs.py), the first half. -/
namespace Lo
open PySem PySem.Spec L2 Evl PyProof.Rows

/-- a row by places -/
def tab (f : Nat → Int) : List Int := (List.range 24).map f
theorem len_tab (f : Nat → Int) : (tab f).length = 24 := by
  unfold tab
  rw [List.length_map, List.length_range]
theorem tab_at {f : Nat → Int} {i : Nat} (h : i < 24) : (tab f).getD i 0 = f i := by
  unfold tab
  rw [List.getD_eq_getElem?_getD, List.getElem?_map, List.getElem?_range h]
  rfl
theorem tab_of {ns : List Int} (h : ns.length = 24) : tab (fun i => ns.getD i 0) = ns := by
  unfold tab
  rw [← h]
  exact (range_map_getD id ns).trans (List.map_id ns)
theorem given_tab (f : Nat → Int) : givenD 24 (fun _ => true) (fun i => .int (f i)) = (tab f).map PyData.int := by
  rw [given_all]
  unfold tab
  rw [List.map_map]
  rfl
theorem given_tabN {n : Nat} (h : n = 24) (f : Nat → Int) : givenD n (fun _ => true) (fun i => .int (f i)) = (tab f).map PyData.int := by
  subst h
  exact given_tab f
/-- a row whose numbers are not beyond all bounds -/
def Bd (ns : List Int) : Prop := ∀ i, i < 24 → -(2 ^ 62) < ns.getD i 0 ∧ ns.getD i 0 < 2 ^ 62
def longB (ns : List Int) : Bool := isN (breakD ns)
def sq (ns : List Int) : Int := (tab fun i => ns.getD i 0 * ns.getD i 0).sum
def dot (ns ms : List Int) : Int := (tab fun i => ns.getD i 0 * ms.getD i 0).sum
section
variable {K : PySem.W.Frag} {δ : De} {ns ms : List Int} {tl : TE}
theorem src1 {n : Nat} (hl : ns.length = 24) (h : EvD K tl δ (ti ns)) : SrcD K (iTup K tl) (gName n) δ 24 (fun i => [(n, .int (ns.getD i 0))]) := by
  have z := w_tupI (n := n) h
  rwa [hl] at z
theorem srcZ {t : TA} {m n : Nat} (hl : ns.length = 24) (hl2 : ms.length = 24) (h : EvDA K t δ [ti ns, ti ms]) : SrcD K (RZ.iZipA K t) (gTup K 2 (gCons (gName m) (gCons (gName n) gNil))) δ 24 (fun i => [(m, .int (ns.getD i 0)), (n, .int (ms.getD i 0))]) := by
  have z := w_zipI (m := m) (n := n) h
  rwa [hl, hl2] at z
theorem srcE {t : TA} {m n : Nat} (hl : ns.length = 24) (h : EvDA K t δ [ti ns]) : SrcD K (iEnumT K t) (gTup K 2 (gCons (gName m) (gCons (gName n) gNil))) δ 24 (fun i => [(m, .int (i : Nat)), (n, .int (ns.getD i 0))]) := by
  have z := w_enumI (m := m) (n := n) h
  rwa [hl] at z
end
theorem own1 {n : Nat} {ε : Nat → PyData} : ∀ i, ∀ p ∈ [(n, ε i)], p.1 ∈ [n] := fun i p hp => by rw [List.mem_singleton.mp hp]; simp
theorem own2 {m n : Nat} {ε ζ : Nat → PyData} : ∀ i, ∀ p ∈ [(m, ε i), (n, ζ i)], p.1 ∈ [m, n] := fun i p hp => by
  rcases List.mem_cons.mp hp with rfl | hp
  · exact List.mem_cons_self
  · rw [List.mem_singleton.mp hp]
    simp
section
variable {P : Program} {w : World} {K : PySem.W.Frag} {mg : Str → Option Value} {base : Heap}
def RLong (ds : List PyData) (d : PyData) : Prop := ∃ ns : List Int, ns.length = 24 ∧ ((ds = [ti ns] ∧ d = .bool (longB ns)) ∨ (ds = [li ns] ∧ d = .bool false))
theorem ok_is_long (F : FunM K mg "is_long" sIsLong) (G1 : Dfn P w K mg base CX0 2 "is_plain_row" ["thing"] (spD K RPlain)) (G2 : Dfn P w K mg base CX0 7 "row_break" ["row"] (spD K RBreak)) : Dfn P w K mg base CX0 8 "is_long" ["thing"] (spD K RLong) := by
  refine dfn_of F scIsLong (fun _ _ _ _ _ _ us hl => match us, hl with | [_], _ => rfl) (fun ds d ⟨_, _, h⟩ => by rcases h with ⟨h, _⟩ | ⟨h, _⟩ <;> (rw [h]; rfl)) ?_
  rintro f cdv A outer s H E hr ds d ⟨ns, hl, h⟩
  rcases h with ⟨rfl, rfl⟩ | ⟨rfl, rfl⟩
  · refine ⟨_, pss_one (ps_ret (pe_and (pc G1 (hr.mono (by decide)) (pa_cons (pv 0) pa_nil)) (pe_one (pe_cmpR op_isN (pc G2 hr (pa_cons (pv 0) pa_nil)) pe_non (nomark _))))), ?_⟩
    exact s_ret (d_andV (b := true) (d_call (da_cons (d_var rfl) da_nil) ⟨ns, hl, .inl ⟨rfl, rfl⟩⟩) fun _ => d_op (d_call (da_cons (d_var rfl) da_nil) ⟨ns, hl, rfl, rfl⟩) d_non rd_isN)
  · refine ⟨_, pss_one (ps_ret (pe_and (pc G1 (hr.mono (by decide)) (pa_cons (pv 0) pa_nil)) (pe_one pe_nv))), ?_⟩
    exact s_ret (d_andV (b := false) (c := false) (d_call (da_cons (d_var rfl) da_nil) ⟨ns, hl, .inr ⟨rfl, rfl⟩⟩) fun z => nomatch z)
def RSureLong (ds : List PyData) (d : PyData) : Prop := ∃ ns : List Int, ns.length = 24 ∧ longB ns = true ∧ (ds = [ti ns] ∨ ds = [li ns]) ∧ d = ti ns
theorem ok_sure_long (F : FunM K mg "sure_long" sSureLong) (G1 : Dfn P w K mg base CX0 2 "tupled" ["thing"] (spD K RTup)) (G2 : Dfn P w K mg base CX0 8 "is_long" ["thing"] (spD K RLong)) :
    Dfn P w K mg base CX0 9 "sure_long" ["long"] (spD K RSureLong) := by
  refine dfn_of F scSureLong (fun _ _ _ _ _ _ us hl => match us, hl with | [_], _ => rfl) (fun ds d ⟨_, _, _, h, _⟩ => by rcases h with h | h <;> (rw [h]; rfl)) ?_
  rintro f cdv A outer s H E hr ds d ⟨ns, hl, hlg, h, rfl⟩
  refine ⟨_, pss_cons (ps_set (i := 1) scSureLong.nd rfl (Or.inl rfl) (pc G1 (hr.mono (by decide)) (pa_cons (pv 0) pa_nil))) (pss_cons (ps_if (pt_not (pt_val (pc G2 hr (pa_cons (pv 1) pa_nil)))) (pss_one ps_never) pss_nil) (pss_one (ps_ret (pv 1)))), ?_⟩
  have e2 : ∀ x : PyData, EvB K (tNot (tB (tCall (spD K RLong) [] E0 (tCons (tVar 1) tNil)))) [some x, some (ti ns)] false := fun x => b_not (b := true) (b_B (d_call (da_cons (d_var rfl) da_nil) ⟨ns, hl, .inl ⟨rfl, by rw [hlg]⟩⟩))
  rcases h with rfl | rfl
  · exact s_seq (s_set (d_call (da_cons (d_var rfl) da_nil) ⟨ns, by omega, .inl rfl, rfl⟩)) (s_seq (s_ifF (e2 _) s_next) (s_ret (d_var rfl)))
  · exact s_seq (s_set (d_call (da_cons (d_var rfl) da_nil) ⟨ns, by omega, .inr rfl, rfl⟩)) (s_seq (s_ifF (e2 _) s_next) (s_ret (d_var rfl)))
/-! ### those that raise -/
def ROddLot (ds : List PyData) (d : PyData) : Prop := ∃ ns : List Int, ns.length = 24 ∧ (ds = [ti ns] ∨ ds = [li ns]) ∧ mixedP ns = none ∧ d = ti (Lp (oddB ns))
def XOddLot (U : Addr) (ds : List PyData) (c : Value) : Prop := ∃ ns : List Int, ns.length = 24 ∧ (ds = [ti ns] ∨ ds = [li ns]) ∧ mixedP ns ≠ none ∧ c = .ref U
theorem len_or {ns : List Int} {ds : List PyData} (h : ds = [ti ns] ∨ ds = [li ns]) : ds.length = 1 := by rcases h with h | h <;> (rw [h]; rfl)
theorem mixedN (ns : List Int) : isN (mixedD ns) = (mixedP ns).isNone := by
  unfold mixedD
  cases mixedP ns <;> rfl
/-- own = def(arg), arg a row as tuple or as list -/
theorem s_own {R : List PyData → PyData → Prop} {ns : List Int} {ds : List PyData} {x : PyData} {n : Nat} (h : ds = [ti ns] ∨ ds = [li ns]) (hR : R ds x) :
    StD K (tAsg (tCall (spD K R) [] E0 (tCons (tVar 0) tNil)) (gName 1)) (ds.map some ++ List.replicate n none) (.next ((ds.map some ++ List.replicate n none).set 1 (some x))) := by
  rcases h with rfl | rfl
  · exact s_set (d_call (da_cons (d_var rfl) da_nil) hR)
  · exact s_set (d_call (da_cons (d_var rfl) da_nil) hR)
theorem ok_odd_lot {U : Addr} (e : Exn K mg "Unfit" U) (F : FunM K mg "odd_lot" sOddLot) (G1 : Dfn P w K mg base CX0 3 "sure_plain_row" ["row"] (spD K RSurePlain)) (G2 : Dfn P w K mg base CX0 1 "mixed_place" ["row"] (spD K RMixed))
    (G3 : Dfn P w K mg base CX0 1 "odd_halves" ["row"] (spD K ROdd)) : Dfn P w K mg base (L2.CX P w) 4 "odd_lot" ["row"] (spX K ROddLot (XOddLot U)) := by
  refine dfnX_of F scOddLot (fun _ _ _ _ _ _ us hl => match us, hl with | [_], _ => rfl) (fun ds d ⟨_, _, h, _⟩ => len_or h) (fun ds d ⟨_, _, h, _⟩ => len_or h) ?_
  intro f cdv A outer s H E hr ds
  refine ⟨_, pss_cons (ps_set (i := 1) scOddLot.nd rfl (Or.inl rfl) (pc G1 hr (pa_cons (pv 0) pa_nil))) (pss_cons (ps_if (pt_cmpR op_notN (pc G2 (hr.mono (by decide)) (pa_cons (pv 1) pa_nil)) pe_non (nomark _)) (pss_one (psRaise e rfl (takes_of rfl rfl rfl rfl) (by rfl))) pss_nil)
    (pss_one (ps_ret (pc G3 (hr.mono (by decide)) (pa_cons (pv 1) pa_nil))))), ?_, ?_⟩
  · rintro d ⟨ns, hl, h, hm, rfl⟩
    refine s_seq (s_own h ⟨ns, hl, h, rfl⟩) ?_
    rcases h with rfl | rfl
    all_goals exact s_seq (s_ifF (b_test (EvD.to (d_op (d_call (da_cons (d_var rfl) da_nil) ⟨ns, hl, rfl, rfl⟩) d_non rd_notN) (by rw [mixedN, hm]; rfl))) s_next) (s_ret (d_call (da_cons (d_var rfl) da_nil) ⟨ns, hl, rfl, rfl⟩))
  · rintro c ⟨ns, hl, h, hm, rfl⟩
    refine ra_seq (s_own h ⟨ns, hl, h, rfl⟩) ?_
    rcases h with rfl | rfl
    all_goals exact ra_seqR (ra_ifT (b_test (EvD.to (d_op (d_call (da_cons (d_var rfl) da_nil) ⟨ns, hl, rfl, rfl⟩) d_non rd_notN) (by
      rw [mixedN]
      cases hp : mixedP ns with
      | none => exact absurd hp hm
      | some m => rfl))) ra_newE)
def RRule (ds : List PyData) (d : PyData) : Prop := ∃ ns : List Int, ns.length = 24 ∧ (ds = [ti ns] ∨ ds = [li ns]) ∧ longB ns = false ∧ d = breakD ns
def XRule (N : Addr) (ds : List PyData) (c : Value) : Prop := ∃ ns : List Int, ns.length = 24 ∧ (ds = [ti ns] ∨ ds = [li ns]) ∧ longB ns = true ∧ c = .ref N
theorem ok_rule_broken {N : Addr} (e : Exn K mg "NoPaper" N) (F : FunM K mg "rule_broken" sRuleBroken) (G1 : Dfn P w K mg base CX0 3 "sure_plain_row" ["row"] (spD K RSurePlain)) (G2 : Dfn P w K mg base CX0 7 "row_break" ["row"] (spD K RBreak)) :
    Dfn P w K mg base (L2.CX P w) 8 "rule_broken" ["row"] (spX K RRule (XRule N)) := by
  refine dfnX_of F scRuleBroken (fun _ _ _ _ _ _ us hl => match us, hl with | [_], _ => rfl) (fun ds d ⟨_, _, h, _⟩ => len_or h) (fun ds d ⟨_, _, h, _⟩ => len_or h) ?_
  intro f cdv A outer s H E hr ds
  refine ⟨_, pss_cons (ps_set (i := 1) scRuleBroken.nd rfl (Or.inl rfl) (pc G2 hr (pa_cons (pc G1 (hr.mono (by decide)) (pa_cons (pv 0) pa_nil)) pa_nil))) (pss_cons (ps_if (pt_cmpR op_isN (pv 1) pe_non (nomark _)) (pss_one (psRaise e rfl (takes_of rfl rfl rfl rfl) (by rfl))) pss_nil)
    (pss_one (ps_ret (pv 1)))), ?_, ?_⟩
  · rintro d ⟨ns, hl, h, hm, rfl⟩
    rcases h with rfl | rfl
    · exact s_seq (s_set (d_call (da_cons (d_call (da_cons (d_var rfl) da_nil) ⟨ns, hl, .inl rfl, rfl⟩) da_nil) ⟨ns, hl, rfl, rfl⟩)) (s_seq (s_ifF (b_test (EvD.to (d_op (d_var rfl) d_non rd_isN) (congrArg PyData.bool hm))) s_next) (s_ret (d_var rfl)))
    · exact s_seq (s_set (d_call (da_cons (d_call (da_cons (d_var rfl) da_nil) ⟨ns, hl, .inr rfl, rfl⟩) da_nil) ⟨ns, hl, rfl, rfl⟩)) (s_seq (s_ifF (b_test (EvD.to (d_op (d_var rfl) d_non rd_isN) (congrArg PyData.bool hm))) s_next) (s_ret (d_var rfl)))
  · rintro c ⟨ns, hl, h, hm, rfl⟩
    rcases h with rfl | rfl
    · exact ra_seq (s_set (d_call (da_cons (d_call (da_cons (d_var rfl) da_nil) ⟨ns, hl, .inl rfl, rfl⟩) da_nil) ⟨ns, hl, rfl, rfl⟩)) (ra_seqR (ra_ifT (b_test (EvD.to (d_op (d_var rfl) d_non rd_isN) (congrArg PyData.bool hm))) ra_newE))
    · exact ra_seq (s_set (d_call (da_cons (d_call (da_cons (d_var rfl) da_nil) ⟨ns, hl, .inr rfl, rfl⟩) da_nil) ⟨ns, hl, rfl, rfl⟩)) (ra_seqR (ra_ifT (b_test (EvD.to (d_op (d_var rfl) d_non rd_isN) (congrArg PyData.bool hm))) ra_newE))
/-- half of each number, downwards -/
def hlf (ns : List Int) : List Int := tab fun i => ns.getD i 0 / 2
def RHalved (ds : List PyData) (d : PyData) : Prop := ∃ ns : List Int, ns.length = 24 ∧ ds = [ti ns] ∧ d = ti (hlf ns)
theorem ok_halved_row (F : FunM K mg "halved_row" sHalvedRow) (T : Blt mg) : Dfn P w K mg base CX0 1 "halved_row" ["row"] (spD K RHalved) := by
  refine dfn_of F scHalvedRow (fun _ _ _ _ _ _ us hl => match us, hl with | [_], _ => rfl) (fun ds d ⟨_, _, h, _⟩ => by rw [h]; rfl) ?_
  rintro f cdv A outer s H E hr ds d ⟨ns, hl, rfl, rfl⟩
  refine ⟨_, pss_one (ps_ret (pTup T (pe_lc (own := [("own", 1)]) (g := gName 1) (tt := tYes) rfl scHalvedRow.nd (pi_tup (pv 0)) (blkOk_by (N := nHalvedRow) (sc := defScope sHalvedRow) (by decide +kernel))
    (fun _ _ _ _ _ => pg_name (i := 1) scHalvedRow.nd rfl (Or.inl rfl)) (fun _ _ _ _ _ => pts_nil) (fun _ _ _ _ _ => pe_op op_fdiv (pv 1) pe_int)))), ?_⟩
  exact s_ret (d_cb (da_cons (EvD.to (z := li (hlf ns)) (d_lc (src1 hl (d_var rfl)) (by decide) own1 (fun i hi => b_yes) (fun i hi _ => d_op (d_var rfl) d_int (rd_intC ⟨by decide, by decide⟩))) (congrArg PyData.list (given_tab _))) da_nil) rc_tupL)
def noWayB (ns : List Int) : Bool := decide (ns.getD 0 0 % 2 = 1) || !longB (hlf ns)
def RHalf (ds : List PyData) (d : PyData) : Prop := ∃ ns : List Int, ns.length = 24 ∧ longB ns = true ∧ (ds = [ti ns] ∨ ds = [li ns]) ∧ noWayB ns = false ∧ d = ti (hlf ns)
def XHalf (W : Addr) (ds : List PyData) (c : Value) : Prop := ∃ ns : List Int, ns.length = 24 ∧ longB ns = true ∧ (ds = [ti ns] ∨ ds = [li ns]) ∧ noWayB ns = true ∧ c = .ref W
theorem ok_half_long {W : Addr} (e : Exn K mg "NoWay" W) (F : FunM K mg "half_long" sHalfLong) (G1 : Dfn P w K mg base CX0 9 "sure_long" ["long"] (spD K RSureLong)) (G2 : Dfn P w K mg base CX0 7 "row_break" ["row"] (spD K RBreak))
    (G3 : Dfn P w K mg base CX0 1 "halved_row" ["row"] (spD K RHalved)) : Dfn P w K mg base (L2.CX P w) 10 "half_long" ["long"] (spX K RHalf (XHalf W)) := by
  refine dfnX_of F scHalfLong (fun _ _ _ _ _ _ us hl => match us, hl with | [_], _ => rfl) (fun ds d ⟨_, _, _, h, _⟩ => len_or h) (fun ds d ⟨_, _, _, h, _⟩ => len_or h) ?_
  intro f cdv A outer s H E hr ds
  have m2 : (0 : Int) < 2 := by decide
  refine ⟨_, pss_cons (ps_set (i := 1) scHalfLong.nd rfl (Or.inl rfl) (pc G1 hr (pa_cons (pv 0) pa_nil))) (pss_cons (ps_set (i := 2) scHalfLong.nd rfl (Or.inl rfl) (pc G3 (hr.mono (by decide)) (pa_cons (pv 1) pa_nil)))
    (pss_cons (ps_if (PW.pt (pw_or (pt_cmpR (op_eqD hr.units) (pe_op op_mod (pe_ix ix_tup (pv 1) pe_int (fun _ _ => rfl)) pe_int) pe_int (nomark _)) (pw_or1 (pt_cmpR op_notN (pc G2 (hr.mono (by decide)) (pa_cons (pv 2) pa_nil)) pe_non (nomark _)))))
      (pss_one (psRaise e rfl (takes_of rfl rfl rfl rfl) (by rfl))) pss_nil) (pss_one (ps_ret (pv 2))))), ?_, ?_⟩
  · rintro d ⟨ns, hl, hlg, h, hm, rfl⟩
    refine s_seq (s_own h ⟨ns, hl, hlg, h, rfl⟩) ?_
    rcases h with rfl | rfl
    all_goals exact s_seq (s_set (d_call (da_cons (d_var rfl) da_nil) ⟨ns, hl, rfl, rfl⟩)) (s_seq (s_ifF (EvB.to (b_or (b_test (d_op (d_op (d_op (d_var rfl) d_int (rd_at0 (by omega))) d_int (rd_intC (f := fun i j => i % j) m2)) d_int rd_eqI))
      fun _ => b_test (d_op (d_call (da_cons (d_var rfl) da_nil) ⟨hlf ns, len_tab _, rfl, rfl⟩) d_non rd_notN)) hm) s_next) (s_ret (d_var rfl)))
  · rintro c ⟨ns, hl, hlg, h, hm, rfl⟩
    refine ra_seq (s_own h ⟨ns, hl, hlg, h, rfl⟩) ?_
    rcases h with rfl | rfl
    all_goals exact ra_seq (s_set (d_call (da_cons (d_var rfl) da_nil) ⟨ns, hl, rfl, rfl⟩)) (ra_seqR (ra_ifT (EvB.to (b_or (b_test (d_op (d_op (d_op (d_var rfl) d_int (rd_at0 (by omega))) d_int (rd_intC (f := fun i j => i % j) m2)) d_int rd_eqI))
      fun _ => b_test (d_op (d_call (da_cons (d_var rfl) da_nil) ⟨hlf ns, len_tab _, rfl, rfl⟩) d_non rd_notN)) hm) ra_newE))
end
end Lo
/-! D7: long rows (longs.py), the second half. -/
namespace Lo
open PySem PySem.Spec L2 Evl PyProof.Rows

/-! ### is_break -/
/-- a pair whose second part fits the other's where the first parts are the same -/
def Fit (s t : Str) (x y : PyData) : Prop := s = t → (s = "lot" ∧ ∃ p q : Nat → Bool, x = ti (Lp p) ∧ y = ti (Lp q)) ∨ (s ≠ "lot" ∧ ∃ i j : Int, x = .int i ∧ y = .int j)
abbrev OkS (s : Str) : Prop := SeqAt.shaped (.str s) = true
def Brk (thing found : PyData) : Prop := found = .none ∨ ∃ (t : Str) (y : PyData), OkS t ∧ found = .tuple [.str t, y] ∧ (thing = .none ∨ ∃ (s : Str) (x : PyData), OkS s ∧ thing = .tuple [.str s, x] ∧ Fit s t x y)
def isBr (thing found : PyData) : Bool := !isN found && PyData.eqv thing found
theorem asc_Lp (p : Nat → Bool) : asc (Lp p) = true := by
  have hs : List.Pairwise (· < ·) (Lp p) := by
    unfold Lp
    refine List.pairwise_map.mpr ?_
    refine List.Pairwise.imp (fun h => Int.ofNat_lt.mpr h) (List.Pairwise.filter _ List.pairwise_lt_range)
  unfold asc
  rw [List.all_eq_true]
  intro i hi
  have hi' := List.mem_range.mp hi
  rw [decide_eq_true_iff, List.getD_eq_getElem?_getD, List.getD_eq_getElem?_getD, List.getElem?_eq_getElem (show i < (Lp p).length by omega), List.getElem?_eq_getElem (show i + 1 < (Lp p).length by omega)]
  exact List.pairwise_iff_getElem.mp hs i (i + 1) (by omega) (by omega) (by omega)
theorem below_Lp (p : Nat → Bool) : ((List.range (Lp p).length).all fun i => below ((Lp p).getD i 0) 24) = true := by
  rw [List.all_eq_true]
  intro i hi
  have hi' := List.mem_range.mp hi
  have h := mem_Lp (p := p) (l := (Lp p).getD i 0) (by
    rw [List.getD_eq_getElem?_getD, List.getElem?_eq_getElem hi']
    exact List.getElem_mem hi')
  unfold below
  rw [decide_eq_true h.1, decide_eq_true h.2]
  rfl
theorem eqv_pair (s t : Str) (x y : PyData) : PyData.eqv (.tuple [.str s, x]) (.tuple [.str t, y]) = (decide (s = t) && PyData.eqv x y) := by
  rw [PyData.eqv, PyData.eqvAll, PyData.eqvAll, PyData.eqv, PyData.eqvAll, Bool.and_true, Bool.beq_eq_decide_eq]
section
variable {P : Program} {w : World} {K : PySem.W.Frag} {mg : Str → Option Value} {base : Heap}
theorem rd_neS {x y : Str} (hx : OkS x) (hy : OkS y) : RD K (rNeD K) (.str x) (.str y) (.bool (!decide (x = y))) := by
  have h := rd_ne (K := K) (x := .str x) (y := .str y) hx hy
  rw [PyData.eqv, Bool.beq_eq_decide_eq] at h
  exact h
theorem rd_eqS {x y : Str} (hx : OkS x) (hy : OkS y) : RD K (rEqD K) (.str x) (.str y) (.bool (decide (x = y))) := by
  have h := rd_eq (K := K) (x := .str x) (y := .str y) hx hy
  rw [PyData.eqv, Bool.beq_eq_decide_eq] at h
  exact h
theorem rd_0 {x y : PyData} : RD K (rIxT K) (.tuple [x, y]) (.int 0) x := rd_ixT rfl
theorem rd_1 {x y : PyData} : RD K (rIxT K) (.tuple [x, y]) (.int 1) y := rd_ixT rfl
def RIsBreak (ds : List PyData) (d : PyData) : Prop := ∃ thing found, Brk thing found ∧ ds = [thing, found] ∧ d = .bool (isBr thing found)
theorem ok_is_break (F : FunM K mg "is_break" sIsBreak) (T : Blt mg) (C : Cst K mg) (G1 : Dfn P w K mg base CX0 1 "is_tuple_of" ["thing", "size"] (spD K RIsTupleOf)) (G2 : Dfn P w K mg base CX0 4 "is_number_set" ["thing", "many"] (spD K RIsNumberSet))
    (G3 : Dfn P w K mg base CX0 1 "is_number" ["thing"] (spD K RIsNumber)) : Dfn P w K mg base CX0 5 "is_break" ["thing", "found"] (spD K RIsBreak) := by
  refine dfn_of F scIsBreak (fun _ _ _ _ _ _ us hl => match us, hl with | [_, _], _ => rfl) (fun ds d ⟨_, _, _, h, _⟩ => by rw [h]; rfl) ?_
  rintro f cdv A outer s H E hr ds d ⟨thing, found, hb, rfl, rfl⟩
  have body : ∀ {X : Cx} {ta tb tc td : TE} {e1 e2 e3 e4 : Expr}, True := fun {_ _ _ _ _ _ _ _ _} => trivial
  refine ⟨_, pss_cons (ps_if (PW.pt (pw_or (pt_cmpR op_isN (pv 1) pe_non (nomark _)) (pw_or (pt_not (pt_val (pc G1 (hr.mono (by decide)) (pa_cons (pv 0) (pa_cons pe_int pa_nil))))) (pw_or (pt_not (pt_val (pIsi T (pe_ix ix_tup (pv 0) pe_int (fun _ _ => rfl)) (cStr T))))
      (pw_or1 (pt_cmpR (op_neD hr.units) (pe_ix ix_tup (pv 0) pe_int (fun _ _ => rfl)) (pe_ix ix_tup (pv 1) pe_int (fun _ _ => rfl)) (nomark _))))))) (pss_one (ps_ret pe_bl)) pss_nil)
    (pss_cons (ps_if (pt_cmpR (op_eqD hr.units) (pe_ix ix_tup (pv 1) pe_int (fun _ _ => rfl)) pe_str (nomark _))
      (pss_one (ps_ret (pe_and (pc G2 hr (pa_cons (pe_ix ix_tup (pv 0) pe_int (fun _ _ => rfl)) (pa_cons (gLamps C) pa_nil))) (pe_one (pe_cmpR (op_eqD hr.units) (pe_ix ix_tup (pv 0) pe_int (fun _ _ => rfl)) (pe_ix ix_tup (pv 1) pe_int (fun _ _ => rfl)) (nomark _)))))) pss_nil)
    (pss_one (ps_ret (pe_and (pc G3 (hr.mono (by decide)) (pa_cons (pe_ix ix_tup (pv 0) pe_int (fun _ _ => rfl)) pa_nil)) (pe_one (pe_cmpR (op_eqD hr.units) (pe_ix ix_tup (pv 0) pe_int (fun _ _ => rfl)) (pe_ix ix_tup (pv 1) pe_int (fun _ _ => rfl)) (nomark _))))))), ?_⟩
  rcases hb with rfl | ⟨t, y, ot, rfl, rfl | ⟨s', x, os, rfl, hf⟩⟩
  · refine s_seqR (s_ifT (EvB.to (b_or (b := true) (c := true) (b_test (EvD.to (d_op (d_var rfl) d_non rd_isN) rfl)) fun z => nomatch z) rfl) (s_ret d_bl))
  · refine s_seqR (s_ifT (EvB.to (b_or (b := false) (c := true) (b_test (EvD.to (d_op (d_var rfl) d_non rd_isN) rfl)) fun _ => EvB.to (b_or (b := true) (c := true) (b_not (b := false) (b_B (d_call (da_cons (d_var rfl) (da_cons d_int da_nil)) ⟨.none, 2, rfl, rfl, rfl⟩))) fun z => nomatch z) rfl) rfl) (s_ret d_bl))
  · have e2 : tupOf 2 (.tuple [.str s', x]) = true := rfl
    have test := b_or (b := false) (b_test (EvD.to (d_op (K := K) (δ := [some (.tuple [.str s', x]), some (.tuple [.str t, y])]) (d_var (i := 1) rfl) d_non rd_isN) rfl)) fun _ => b_or (b := false) (b_not (b := true) (b_B (d_call (R := RIsTupleOf) (da_cons (d_var (i := 0) rfl) (da_cons d_int da_nil)) ⟨.tuple [.str s', x], 2, rfl, rfl, rfl⟩)))
      fun _ => b_or (b := false) (b_not (b := true) (b_B (d_isi (d_op (d_var (i := 0) rfl) d_int rd_0) (kSt (.str s') rfl)))) fun _ => b_test (d_op (d_op (d_var (i := 0) rfl) d_int rd_0) (d_op (d_var (i := 1) rfl) d_int rd_0) (rd_neS (x := s') (y := t) os ot))
    have ev : isBr (.tuple [.str s', x]) (.tuple [.str t, y]) = (decide (s' = t) && PyData.eqv x y) := by
      unfold isBr
      rw [eqv_pair]
      rfl
    rw [ev]
    by_cases hst : s' = t
    · rcases hf hst with ⟨hlot, p, q, rfl, rfl⟩ | ⟨hlot, i, j, rfl, rfl⟩
      · have hl := len_Lp p
        refine s_seq (s_ifF (EvB.to test (by rw [decide_eq_true hst]; rfl)) s_next) (s_seqR (s_ifT (EvB.to (b_test (d_op (d_op (d_var (i := 1) rfl) d_int rd_0) d_str (rd_eqS (x := t) (y := "lot") ot (by decide +kernel)))) (by rw [← hst, hlot]; rfl)) (s_ret (EvD.to (d_andV (d_call (da_cons (d_op (d_var rfl) d_int rd_1) (da_cons d_int da_nil)) ⟨Lp p, 24, by omega, rfl, rfl⟩)
          fun _ => d_op (d_op (d_var rfl) d_int rd_1) (d_op (d_var rfl) d_int rd_1) rd_eqT) ?_))))
        rw [below_Lp, asc_Lp, decide_eq_true hst, eqv_ti]
        rfl
      · refine s_seq (s_ifF (EvB.to test (by rw [decide_eq_true hst]; rfl)) s_next) (s_seq (s_ifF (EvB.to (b_test (d_op (d_op (d_var (i := 1) rfl) d_int rd_0) d_str (rd_eqS (x := t) (y := "lot") ot (by decide +kernel)))) (decide_eq_false fun z => hlot (hst.trans z))) s_next) (s_ret (EvD.to (d_andV (b := true) (d_call (da_cons (d_op (d_var rfl) d_int rd_1) da_nil) ⟨i, rfl, rfl⟩)
          fun _ => d_op (d_op (d_var rfl) d_int rd_1) (d_op (d_var rfl) d_int rd_1) rd_eqI) ?_)))
        rw [decide_eq_true hst, eqv_int]
    · refine s_seqR (s_ifT (EvB.to test (by rw [decide_eq_false hst]; rfl)) (s_ret (EvD.to d_bl ?_)))
      rw [decide_eq_false hst]
      rfl
def RIsRule (ds : List PyData) (d : PyData) : Prop := ∃ (ns : List Int) (thing : PyData), ns.length = 24 ∧ Brk thing (breakD ns) ∧ ds = [ti ns, thing] ∧ d = .bool (isBr thing (breakD ns))
theorem ok_is_rule_broken (F : FunM K mg "is_rule_broken" sIsRuleBroken) (G1 : Dfn P w K mg base CX0 3 "sure_plain_row" ["row"] (spD K RSurePlain)) (G2 : Dfn P w K mg base CX0 7 "row_break" ["row"] (spD K RBreak))
    (G3 : Dfn P w K mg base CX0 5 "is_break" ["thing", "found"] (spD K RIsBreak)) : Dfn P w K mg base CX0 8 "is_rule_broken" ["row", "thing"] (spD K RIsRule) := by
  refine dfn_of F scIsRuleBroken (fun _ _ _ _ _ _ us hl => match us, hl with | [_, _], _ => rfl) (fun ds d ⟨_, _, _, _, h, _⟩ => by rw [h]; rfl) ?_
  rintro f cdv A outer s H E hr ds d ⟨ns, thing, hl, hb, rfl, rfl⟩
  refine ⟨_, pss_one (ps_ret (pc G3 (hr.mono (by decide)) (pa_cons (pv 1) (pa_cons (pc G2 hr (pa_cons (pc G1 (hr.mono (by decide)) (pa_cons (pv 0) pa_nil)) pa_nil)) pa_nil)))), ?_⟩
  exact s_ret (d_call (da_cons (d_var rfl) (da_cons (d_call (da_cons (d_call (da_cons (d_var rfl) da_nil) ⟨ns, hl, .inl rfl, rfl⟩) da_nil) ⟨ns, hl, rfl, rfl⟩) da_nil)) ⟨thing, _, hb, rfl, rfl⟩)

/-! ### squares, products, sums -/
def RSq (ds : List PyData) (d : PyData) : Prop := ∃ ns : List Int, ns.length = 24 ∧ Bd ns ∧ ds = [ti ns] ∧ d = .int (sq ns)
theorem bd_mul {ns : List Int} (hb : Bd ns) {i : Nat} (h : i < 24) (j : Int) : CMul (ns.getD i 0) j := .inl (by have := hb i h; omega)
theorem ok_squares (F : FunM K mg "squares" sSquares) (T : Blt mg) : Dfn P w K mg base CX0 1 "squares" ["row"] (spD K RSq) := by
  refine dfn_of F scSquares (fun _ _ _ _ _ _ us hl => match us, hl with | [_], _ => rfl) (fun ds d ⟨_, _, _, h, _⟩ => by rw [h]; rfl) ?_
  rintro f cdv A outer s H E hr ds d ⟨ns, hl, hb, rfl, rfl⟩
  refine ⟨_, pss_one (ps_ret (pSum T rfl (pe_lc (own := [("own", 1)]) (g := gName 1) (tt := tYes) rfl scSquares.nd (pi_tup (pv 0)) (blkOk_by (N := nSquares) (sc := defScope sSquares) (by decide +kernel))
    (fun _ _ _ _ _ => pg_name (i := 1) scSquares.nd rfl (Or.inl rfl)) (fun _ _ _ _ _ => pts_nil) (fun _ _ _ _ _ => pe_op op_mul (pv 1) (pv 1))))), ?_⟩
  exact s_ret (d_cb (da_cons (EvD.to (z := li (tab fun i => ns.getD i 0 * ns.getD i 0)) (d_lc (src1 hl (d_var rfl)) (by decide) own1 (fun i hi => b_yes) (fun i hi _ => d_op (d_var rfl) (d_var rfl) (rd_intC (f := fun i j => i * j) (bd_mul hb hi _)))) (congrArg PyData.list (given_tab _))) da_nil) rc_sum)
def RTimes (ds : List PyData) (d : PyData) : Prop := ∃ ns ms : List Int, ns.length = 24 ∧ ms.length = 24 ∧ Bd ns ∧ ds = [ti ns, ti ms] ∧ d = .int (dot ns ms)
theorem ok_times (F : FunM K mg "times" sTimes) (T : Blt mg) : Dfn P w K mg base CX0 1 "times" ["one", "other"] (spD K RTimes) := by
  refine dfn_of F scTimes (fun _ _ _ _ _ _ us hl => match us, hl with | [_, _], _ => rfl) (fun ds d ⟨_, _, _, _, _, h, _⟩ => by rw [h]; rfl) ?_
  rintro f cdv A outer s H E hr ds d ⟨ns, ms, hl, hl2, hb, rfl, rfl⟩
  refine ⟨_, pss_one (ps_ret (pSum T rfl (pe_lc (own := [("near", 2), ("far", 3)]) (g := gTup K 2 (gCons (gName 2) (gCons (gName 3) gNil))) (tt := tYes) rfl scTimes.nd (RZ.pi_zipA (by rfl) T.zip (pa_cons (pv 0) (pa_cons (pv 1) pa_nil))) (blkOk_by (N := nTimes) (sc := defScope sTimes) (by decide +kernel))
    (fun _ _ _ _ _ => pg_tup rfl (pgs_cons (pg_name (i := 2) scTimes.nd rfl (Or.inl rfl)) (pgs_cons (pg_name (i := 3) scTimes.nd rfl (Or.inl rfl)) pgs_nil))) (fun _ _ _ _ _ => pts_nil) (fun _ _ _ _ _ => pe_op op_mul (pv 2) (pv 3))))), ?_⟩
  exact s_ret (d_cb (da_cons (EvD.to (z := li (tab fun i => ns.getD i 0 * ms.getD i 0)) (d_lc (srcZ hl hl2 (da_cons (d_var (i := 0) rfl) (da_cons (d_var (i := 1) rfl) da_nil))) (by decide) own2 (fun i hi => b_yes) (fun i hi _ => d_op (d_var rfl) (d_var rfl) (rd_intC (f := fun i j => i * j) (bd_mul hb hi _)))) (congrArg PyData.list (given_tab _))) da_nil) rc_sum)
/-- a long row given as a tuple or as a list -/
def AsL (ns : List Int) (d : PyData) : Prop := d = ti ns ∨ d = li ns
def Lng (ns : List Int) : Prop := ns.length = 24 ∧ longB ns = true
theorem d_sureL {δ : De} {ns : List Int} {te : TE} {d : PyData} (hn : Lng ns) (hd : AsL ns d) (h : EvD K te δ d) : EvD K (tCall (spD K RSureLong) [] E0 (tCons te tNil)) δ (ti ns) := by
  refine d_call (da_cons h da_nil) ⟨ns, hn.1, hn.2, ?_, rfl⟩
  rcases hd with rfl | rfl
  · exact .inl rfl
  · exact .inr rfl
def RLongLength (ds : List PyData) (d : PyData) : Prop := ∃ (ns : List Int) (x : PyData), Lng ns ∧ Bd ns ∧ AsL ns x ∧ ds = [x] ∧ d = .int (sq ns / 8)
theorem ok_long_length (F : FunM K mg "long_length" sLongLength) (G1 : Dfn P w K mg base CX0 9 "sure_long" ["long"] (spD K RSureLong)) (G2 : Dfn P w K mg base CX0 1 "squares" ["row"] (spD K RSq)) : Dfn P w K mg base CX0 10 "long_length" ["long"] (spD K RLongLength) := by
  refine dfn_of F scLongLength (fun _ _ _ _ _ _ us hl => match us, hl with | [_], _ => rfl) (fun ds d ⟨_, _, _, _, _, h, _⟩ => by rw [h]; rfl) ?_
  rintro f cdv A outer s H E hr ds d ⟨ns, x, hn, hb, hx, rfl, rfl⟩
  refine ⟨_, pss_one (ps_ret (pe_op op_fdiv (pc G2 (hr.mono (by decide)) (pa_cons (pc G1 hr (pa_cons (pv 0) pa_nil)) pa_nil)) pe_int)), ?_⟩
  exact s_ret (d_op (d_call (da_cons (d_sureL hn hx (d_var rfl)) da_nil) ⟨ns, hn.1, hb, rfl, rfl⟩) d_int (rd_intC ⟨by decide, by decide⟩))
def RLongProduct (ds : List PyData) (d : PyData) : Prop := ∃ (ns ms : List Int) (x y : PyData), Lng ns ∧ Lng ms ∧ Bd ns ∧ AsL ns x ∧ AsL ms y ∧ ds = [x, y] ∧ d = .int (dot ns ms / 8)
theorem ok_long_product (F : FunM K mg "long_product" sLongProduct) (G1 : Dfn P w K mg base CX0 9 "sure_long" ["long"] (spD K RSureLong)) (G2 : Dfn P w K mg base CX0 1 "times" ["one", "other"] (spD K RTimes)) : Dfn P w K mg base CX0 10 "long_product" ["one", "other"] (spD K RLongProduct) := by
  refine dfn_of F scLongProduct (fun _ _ _ _ _ _ us hl => match us, hl with | [_, _], _ => rfl) (fun ds d ⟨_, _, _, _, _, _, _, _, _, h, _⟩ => by rw [h]; rfl) ?_
  rintro f cdv A outer s H E hr ds d ⟨ns, ms, x, y, hn, hm, hb, hx, hy, rfl, rfl⟩
  refine ⟨_, pss_cons (ps_set (i := 2) scLongProduct.nd rfl (Or.inl rfl) (pc G1 hr (pa_cons (pv 0) pa_nil))) (pss_one (ps_ret (pe_op op_fdiv (pc G2 (hr.mono (by decide)) (pa_cons (pv 2) (pa_cons (pc G1 hr (pa_cons (pv 1) pa_nil)) pa_nil))) pe_int))), ?_⟩
  exact s_seq (s_set (d_sureL hn hx (d_var rfl))) (s_ret (d_op (d_call (da_cons (d_var rfl) (da_cons (d_sureL hm hy (d_var rfl)) da_nil)) ⟨ns, ms, hn.1, hm.1, hb, rfl, rfl⟩) d_int (rd_intC ⟨by decide, by decide⟩)))
def sumR (ns ms : List Int) : List Int := tab fun i => ns.getD i 0 + ms.getD i 0
def RLongSum (ds : List PyData) (d : PyData) : Prop := ∃ (ns ms : List Int) (x y : PyData), Lng ns ∧ Lng ms ∧ AsL ns x ∧ AsL ms y ∧ ds = [x, y] ∧ d = ti (sumR ns ms)
theorem ok_long_sum (F : FunM K mg "long_sum" sLongSum) (T : Blt mg) (G1 : Dfn P w K mg base CX0 9 "sure_long" ["long"] (spD K RSureLong)) : Dfn P w K mg base CX0 10 "long_sum" ["one", "other"] (spD K RLongSum) := by
  refine dfn_of F scLongSum (fun _ _ _ _ _ _ us hl => match us, hl with | [_, _], _ => rfl) (fun ds d ⟨_, _, _, _, _, _, _, _, h, _⟩ => by rw [h]; rfl) ?_
  rintro f cdv A outer s H E hr ds d ⟨ns, ms, x, y, hn, hm, hx, hy, rfl, rfl⟩
  refine ⟨_, pss_cons (ps_set (i := 2) scLongSum.nd rfl (Or.inl rfl) (pc G1 hr (pa_cons (pv 0) pa_nil))) (pss_one (ps_ret (pTup T (pe_lc (own := [("own", 3), ("its", 4)]) (g := gTup K 2 (gCons (gName 3) (gCons (gName 4) gNil))) (tt := tYes) rfl scLongSum.nd
    (RZ.pi_zipA (by rfl) T.zip (pa_cons (pv 2) (pa_cons (pc G1 hr (pa_cons (pv 1) pa_nil)) pa_nil))) (blkOk_by (N := nLongSum) (sc := defScope sLongSum) (by decide +kernel))
    (fun _ _ _ _ _ => pg_tup rfl (pgs_cons (pg_name (i := 3) scLongSum.nd rfl (Or.inl rfl)) (pgs_cons (pg_name (i := 4) scLongSum.nd rfl (Or.inl rfl)) pgs_nil))) (fun _ _ _ _ _ => pts_nil) (fun _ _ _ _ _ => pe_op op_add (pv 3) (pv 4)))))), ?_⟩
  exact s_seq (s_set (d_sureL hn hx (d_var rfl))) (s_ret (d_cb (da_cons (EvD.to (z := li (sumR ns ms)) (d_lc (srcZ hn.1 hm.1 (da_cons (d_var (i := 2) rfl) (da_cons (d_sureL hm hy (d_var (i := 1) rfl)) da_nil))) (by decide) own2 (fun i hi => b_yes) (fun i hi _ => d_op (d_var rfl) (d_var rfl) rd_int)) (congrArg PyData.list (given_tab _))) da_nil) rc_tupL))
def negR (ns : List Int) : List Int := tab fun i => - ns.getD i 0
def RContrary (ds : List PyData) (d : PyData) : Prop := ∃ ns : List Int, ns.length = 24 ∧ ds = [ti ns] ∧ d = ti (negR ns)
theorem ok_contrary_row (F : FunM K mg "contrary_row" sContraryRow) (T : Blt mg) : Dfn P w K mg base CX0 1 "contrary_row" ["row"] (spD K RContrary) := by
  refine dfn_of F scContraryRow (fun _ _ _ _ _ _ us hl => match us, hl with | [_], _ => rfl) (fun ds d ⟨_, _, h, _⟩ => by rw [h]; rfl) ?_
  rintro f cdv A outer s H E hr ds d ⟨ns, hl, rfl, rfl⟩
  refine ⟨_, pss_one (ps_ret (pTup T (pe_lc (own := [("own", 1)]) (g := gName 1) (tt := tYes) rfl scContraryRow.nd (pi_tup (pv 0)) (blkOk_by (N := nContraryRow) (sc := defScope sContraryRow) (by decide +kernel))
    (fun _ _ _ _ _ => pg_name (i := 1) scContraryRow.nd rfl (Or.inl rfl)) (fun _ _ _ _ _ => pts_nil) (fun _ _ _ _ _ => pe_un un_neg (pv 1))))), ?_⟩
  exact s_ret (d_cb (da_cons (EvD.to (z := li (negR ns)) (d_lc (src1 hl (d_var rfl)) (by decide) own1 (fun i hi => b_yes) (fun i hi _ => d_un (d_var rfl) r1_neg)) (congrArg PyData.list (given_tab _))) da_nil) rc_tupL)
def RLongContrary (ds : List PyData) (d : PyData) : Prop := ∃ (ns : List Int) (x : PyData), Lng ns ∧ AsL ns x ∧ ds = [x] ∧ d = ti (negR ns)
theorem ok_long_contrary (F : FunM K mg "long_contrary" sLongContrary) (G1 : Dfn P w K mg base CX0 9 "sure_long" ["long"] (spD K RSureLong)) (G2 : Dfn P w K mg base CX0 1 "contrary_row" ["row"] (spD K RContrary)) : Dfn P w K mg base CX0 10 "long_contrary" ["long"] (spD K RLongContrary) := by
  refine dfn_of F scLongContrary (fun _ _ _ _ _ _ us hl => match us, hl with | [_], _ => rfl) (fun ds d ⟨_, _, _, _, h, _⟩ => by rw [h]; rfl) ?_
  rintro f cdv A outer s H E hr ds d ⟨ns, x, hn, hx, rfl, rfl⟩
  refine ⟨_, pss_one (ps_ret (pc G2 (hr.mono (by decide)) (pa_cons (pc G1 hr (pa_cons (pv 0) pa_nil)) pa_nil))), ?_⟩
  exact s_ret (d_call (da_cons (d_sureL hn hx (d_var rfl)) da_nil) ⟨ns, hn.1, rfl, rfl⟩)
/-! ### other signs -/
def turnR (p : Nat → Bool) (ns : List Int) : List Int := tab fun i => if p i = true then - ns.getD i 0 else ns.getD i 0
theorem mem_Lp_iff {p : Nat → Bool} {i : Nat} (h : i < 24) : decide ((i : Int) ∈ Lp p) = p i := by
  rw [Bool.eq_iff_iff, decide_eq_true_iff]
  unfold Lp
  rw [List.mem_map]
  constructor
  · rintro ⟨j, hj, e⟩
    have : j = i := by omega
    subst this
    exact (List.mem_filter.mp hj).2
  · intro hp
    exact ⟨i, List.mem_filter.mpr ⟨List.mem_range.mpr h, hp⟩, rfl⟩
def RWithSigns (ds : List PyData) (d : PyData) : Prop := ∃ (ns : List Int) (p : Nat → Bool), ns.length = 24 ∧ ds = [ti ns, ti (Lp p)] ∧ d = ti (turnR p ns)
theorem ok_with_signs (F : FunM K mg "with_signs" sWithSigns) (T : Blt mg) : Dfn P w K mg base CX0 1 "with_signs" ["row", "lot"] (spD K RWithSigns) := by
  refine dfn_of F scWithSigns (fun _ _ _ _ _ _ us hl => match us, hl with | [_, _], _ => rfl) (fun ds d ⟨_, _, _, h, _⟩ => by rw [h]; rfl) ?_
  rintro f cdv A outer s H E hr ds d ⟨ns, p, hl, rfl, rfl⟩
  refine ⟨_, pss_one (ps_ret (pTup T (pe_lc (own := [("place", 2), ("own", 3)]) (g := gTup K 2 (gCons (gName 2) (gCons (gName 3) gNil))) (tt := tYes) rfl scWithSigns.nd (pi_enumT (by rfl) T.enum (pa_cons (pv 0) pa_nil)) (blkOk_by (N := nWithSigns) (sc := defScope sWithSigns) (by decide +kernel))
    (fun _ _ _ _ _ => pg_tup rfl (pgs_cons (pg_name (i := 2) scWithSigns.nd rfl (Or.inl rfl)) (pgs_cons (pg_name (i := 3) scWithSigns.nd rfl (Or.inl rfl)) pgs_nil))) (fun _ _ _ _ _ => pts_nil)
    (fun _ _ _ _ _ => pe_ifExp (pt_cmpR (inK K) (pv 2) (pv 1) rfl) (pe_un un_neg (pv 3)) (pv 3))))), ?_⟩
  refine s_ret (d_cb (da_cons (EvD.to (z := li (turnR p ns)) (d_lc (srcE hl (da_cons (d_var (i := 0) rfl) da_nil)) (by decide) own2 (fun i hi => b_yes) (fun i hi _ => d_if (b_test (d_op (d_var rfl) (d_var rfl) rd_inT)) (fun hb => ?_) fun hb => ?_)) (congrArg PyData.list (given_tab _))) da_nil) rc_tupL)
  · rw [mem_Lp_iff hi] at hb
    rw [if_pos hb]
    exact d_un (d_var rfl) r1_neg
  · rw [mem_Lp_iff hi] at hb
    rw [if_neg (by rw [hb]; decide)]
    exact d_var rfl
def RTurned (ds : List PyData) (d : PyData) : Prop := ∃ (ns : List Int) (p : Nat → Bool) (x y : PyData), Lng ns ∧ rightB p = true ∧ AsL ns x ∧ AsL (Lp p) y ∧ ds = [x, y] ∧ d = ti (turnR p ns)
theorem ok_signs_turned (F : FunM K mg "signs_turned" sSignsTurned) (C : Cst K mg) (G1 : Dfn P w K mg base CX0 9 "sure_long" ["long"] (spD K RSureLong)) (G2 : Dfn P w K mg base CX0 2 "tupled" ["thing"] (spD K RTup)) (G3 : Dfn P w K mg base CX0 4 "is_number_set" ["thing", "many"] (spD K RIsNumberSet))
    (G4 : Dfn P w K mg base CX0 6 "is_right" ["lot"] (spD K RIsRight)) (G5 : Dfn P w K mg base CX0 1 "with_signs" ["row", "lot"] (spD K RWithSigns)) : Dfn P w K mg base CX0 10 "signs_turned" ["long", "lot"] (spD K RTurned) := by
  refine dfn_of F scSignsTurned (fun _ _ _ _ _ _ us hl => match us, hl with | [_, _], _ => rfl) (fun ds d ⟨_, _, _, _, _, _, _, _, h, _⟩ => by rw [h]; rfl) ?_
  rintro f cdv A outer s H E hr ds d ⟨ns, p, x, y, hn, hp, hx, hy, rfl, rfl⟩
  refine ⟨_, pss_cons (ps_par (i := 2) (j := 3) rfl scSignsTurned.nd rfl rfl (by decide) rfl rfl (pa_cons (pc G1 hr (pa_cons (pv 0) pa_nil)) (pa_cons (pc G2 (hr.mono (by decide)) (pa_cons (pv 1) pa_nil)) pa_nil)) (by rfl))
    (pss_cons (ps_if (PW.pt (pw_or (pt_not (pt_val (pc G3 (hr.mono (by decide)) (pa_cons (pv 3) (pa_cons (gLamps C) pa_nil))))) (pw_or1 (pt_not (pt_val (pc G4 (hr.mono (by decide)) (pa_cons (pv 3) pa_nil))))))) (pss_one ps_never) pss_nil)
    (pss_one (ps_ret (pc G5 (hr.mono (by decide)) (pa_cons (pv 2) (pa_cons (pv 3) pa_nil)))))), ?_⟩
  have hl := len_Lp p
  refine s_seq (s_par (da_cons (d_sureL hn hx (d_var rfl)) (da_cons (d_call (d := ti (Lp p)) (da_cons (d_var rfl) da_nil) ⟨Lp p, by omega, ?_, rfl⟩) da_nil))) (s_seq (s_ifF (EvB.to (b_or (b_not (b_B (d_call (da_cons (d_var rfl) (da_cons d_int da_nil)) ⟨Lp p, 24, by omega, rfl, rfl⟩)))
    fun _ => b_not (b_B (d_call (da_cons (d_var rfl) da_nil) ⟨p, rfl, rfl⟩))) ?_) s_next) (s_ret (d_call (da_cons (d_var rfl) (da_cons (d_var rfl) da_nil)) ⟨ns, p, hn.1, rfl, rfl⟩)))
  · rcases hy with rfl | rfl
    · exact .inl rfl
    · exact .inr rfl
  · rw [below_Lp, asc_Lp, hp]
    rfl
end
end Lo
/-! D8: the shape of a long row. -/
namespace Lo
open PySem PySem.Spec L2 Evl PyProof.Rows

def absI (x : Int) : Int := if x < 0 then -x else x
def shapeOf (m : Int) : Option Str := if m = 4 then some "pair" else if m = 2 then some "eight" else if m = 3 then some "odd" else none
section
variable {P : Program} {w : World} {K : PySem.W.Frag} {mg : Str → Option Value} {base : Heap}
/-- {4: .., 2: .., 3: ..}[m] -/
def kvS : List (Key × V) := [(.inl 4, .str "pair"), (.inl 2, .str "eight"), (.inl 3, .str "odd")]
theorem d_shape {δ : De} {te : TE} {m : Int} {z : Str} (h : EvD K te δ (.int m)) (hz : shapeOf m = some z) :
    EvD K (tDGet (tDisp [(tC (.int 4), tC (.str "pair")), (tC (.int 2), tC (.str "eight")), (tC (.int 3), tC (.str "odd"))]) te) δ (.str z) := by
  intro σ A k Q q p hp
  have e0 : ∀ H : Hp, upd (upd A.h p (.dK [])) p (.dK (mergeK [] kvS)) = upd A.h p (.dK (mergeK [] kvS)) := fun _ => upd_upd
  refine ⟨upd_same, kvS, rfl, by decide, ?_⟩
  show te σ (upd (upd A.h p (.dK [])) p (.dK (mergeK [] kvS))) _
  rw [e0 A.h]
  refine h σ (A.new p _ hp) (k.ex (A.pr hp).k) _ fun v B e1 hv => ?_
  cases hv
  refine ⟨p, .str z, rfl, .inl ⟨_, .inl m, .of (e1.h _ _ upd_same), rfl, ?_⟩, q _ B ((A.pr hp).trans e1) (.str z)⟩
  unfold shapeOf at hz
  by_cases h4 : m = 4
  · subst h4
    rw [if_pos rfl] at hz
    cases hz
    rfl
  · rw [if_neg h4] at hz
    by_cases h2 : m = 2
    · subst h2
      rw [if_pos rfl] at hz
      cases hz
      rfl
    · rw [if_neg h2] at hz
      by_cases h3 : m = 3
      · subst h3
        rw [if_pos rfl] at hz
        cases hz
        rfl
      · rw [if_neg h3] at hz
        cases hz
/-- the greatest size in a row -/
def Top (ns : List Int) (m : Int) : Prop := (∃ i, i < 24 ∧ absI (ns.getD i 0) = m) ∧ ∀ i, i < 24 → absI (ns.getD i 0) ≤ m
def RShape (ds : List PyData) (d : PyData) : Prop := ∃ ns : List Int, ns.length = 24 ∧ Bd ns ∧ ds = [ti ns] ∧ ((sq ns ≠ 32 ∧ d = .none) ∨ (sq ns = 32 ∧ ∃ m z, Top ns m ∧ shapeOf m = some z ∧ d = .str z))
theorem ok_shape_in (F : FunM K mg "shape_in" sShapeIn) (T : Blt mg) (C : Cst K mg) (G1 : Dfn P w K mg base CX0 1 "squares" ["row"] (spD K RSq)) : Dfn P w K mg base CX0 2 "shape_in" ["row"] (spD K RShape) := by
  refine dfn_of F scShapeIn (fun _ _ _ _ _ _ us hl => match us, hl with | [_], _ => rfl) (fun ds d ⟨_, _, _, h, _⟩ => by rw [h]; rfl) ?_
  rintro f cdv A outer s H E hr ds d ⟨ns, hl, hb, rfl, hd⟩
  refine ⟨_, pss_cons (ps_if (pt_cmpR (op_neD hr.units) (pc G1 hr (pa_cons (pv 0) pa_nil)) (pe_op op_mul pe_int (gShort C)) (nomark _)) (pss_one (ps_ret pe_non)) pss_nil)
    (pss_one (ps_ret (pe_dget (Nat.lt_of_le_of_lt (by show _ + 1 ≤ _ + 64; exact Nat.add_le_add_left (by decide) _) hr.units) (pe_disp (pps_cons pe_int pe_str (pps_cons pe_int pe_str (pps_cons pe_int pe_str pps_nil))) rfl rfl (by simp) (by decide))
      (pMax T rfl (pe_lc (own := [("own", 1)]) (g := gName 1) (tt := tYes) rfl scShapeIn.nd (pi_tup (pv 0)) (blkOk_by (N := nShapeIn) (sc := defScope sShapeIn) (by decide +kernel))
    (fun _ _ _ _ _ => pg_name (i := 1) scShapeIn.nd rfl (Or.inl rfl)) (fun _ _ _ _ _ => pts_nil) (fun _ _ _ _ _ => pAbs T (pv 1)))) (fun _ _ => rfl)))), ?_⟩
  have test : EvB K (tTest (tOp (rNeD K) (tCall (spD K RSq) [] E0 (tCons (tVar 0) tNil)) (tOp (rI CMul fun i j => .int (i * j)) (tC (.int 8)) (tC (.int 4))))) [some (ti ns), none] (!decide (sq ns = 32)) :=
    b_test (d_op (d_call (da_cons (d_var rfl) da_nil) ⟨ns, hl, hb, rfl, rfl⟩) (d_op d_int d_int (rd_intC (f := fun i j => i * j) (.inl ⟨by decide, by decide⟩))) rd_neI)
  rcases hd with ⟨hs, rfl⟩ | ⟨hs, m, z, ⟨⟨i0, hi0, hm0⟩, hle⟩, hz, rfl⟩
  · exact s_seqR (s_ifT (EvB.to test (by rw [decide_eq_false hs]; rfl)) (s_ret d_non))
  · refine s_seq (s_ifF (EvB.to test (by rw [decide_eq_true hs]; rfl)) s_next) (s_ret (d_shape (d_cb (da_cons (EvD.to (z := li (tab fun i => absI (ns.getD i 0))) (d_lc (src1 hl (d_var rfl)) (by decide) own1 (fun i hi => b_yes)
      (fun i hi _ => d_cb (da_cons (d_var rfl) da_nil) rc_abs)) (congrArg PyData.list (given_tab fun i => absI (ns.getD i 0)))) da_nil) (rc_max ?_ ?_)) hz))
    · rw [← hm0]
      exact List.mem_map.mpr ⟨i0, List.mem_range.mpr hi0, rfl⟩
    · intro y hy
      obtain ⟨j, hj, rfl⟩ := List.mem_map.mp hy
      exact hle j (List.mem_range.mp hj)
def RShapeOf (ds : List PyData) (d : PyData) : Prop := ∃ ns : List Int, Lng ns ∧ Bd ns ∧ ds = [ti ns] ∧ ((sq ns ≠ 32 ∧ d = .none) ∨ (sq ns = 32 ∧ ∃ m z, Top ns m ∧ shapeOf m = some z ∧ d = .str z))
theorem ok_shape_of (F : FunM K mg "shape_of" sShapeOf) (G1 : Dfn P w K mg base CX0 9 "sure_long" ["long"] (spD K RSureLong)) (G2 : Dfn P w K mg base CX0 2 "shape_in" ["row"] (spD K RShape)) : Dfn P w K mg base CX0 10 "shape_of" ["long"] (spD K RShapeOf) := by
  refine dfn_of F scShapeOf (fun _ _ _ _ _ _ us hl => match us, hl with | [_], _ => rfl) (fun ds d ⟨_, _, _, h, _⟩ => by rw [h]; rfl) ?_
  rintro f cdv A outer s H E hr ds d ⟨ns, hn, hb, rfl, hd⟩
  refine ⟨_, pss_one (ps_ret (pc G2 (hr.mono (by decide)) (pa_cons (pc G1 hr (pa_cons (pv 0) pa_nil)) pa_nil))), ?_⟩
  exact s_ret (d_call (da_cons (d_sureL hn (.inl rfl) (d_var rfl)) da_nil) ⟨ns, hn.1, hb, rfl, hd⟩)
end
end Lo
/-! E1: the law's own small defs. -/
namespace Lo
open PySem PySem.Spec L2 Evl PyProof.Rows

section
variable {K : PySem.W.Frag} {δ : De} {te : TE} {i : Int}
theorem b_truI (h : EvD K te δ (.int i)) : EvB K (fun σ H Q => te σ H fun x H' => ∃ k, TruV K x H' k ∧ Q k H') δ (i != 0) := fun σ A k Q q => h σ A k _ fun v B e1 hv => by
  cases hv
  exact ⟨i != 0, rfl, q B e1⟩
end
theorem truK (K : PySem.W.Frag) {X : Cx} {a : Expr} {ta : TE} (ha : PE X a ta) (he : ∀ whole, isTrue a X.env whole = (do let v ← whole; standAt a.pos; holding [v] (truthy v))) (hK : X.K = K := by rfl) :
    PT X a (fun σ H Q => ta σ H fun x H' => ∃ k, TruV K x H' k ∧ Q k H') := hK ▸ pt_truth ha he
theorem at00 : Builtin.bitAnd 0 1 = 0 := by decide +kernel
theorem at10 : Builtin.bitAnd 1 1 = 1 := by decide +kernel
theorem at20 : Builtin.bitAnd 2 1 = 0 := by decide +kernel
theorem at30 : Builtin.bitAnd 3 1 = 1 := by decide +kernel
theorem at01 : Builtin.bitAnd 0 2 = 0 := by decide +kernel
theorem at11 : Builtin.bitAnd 1 2 = 0 := by decide +kernel
theorem at21 : Builtin.bitAnd 2 2 = 2 := by decide +kernel
theorem at31 : Builtin.bitAnd 3 2 = 2 := by decide +kernel
/-- the law's own product -/
def lawMul (a b : Int) : Int := xorI (if (Builtin.bitAnd a 1 != 0) = true then b else 0) (if (Builtin.bitAnd a 2 != 0) = true then 2 * b else 0)
def lawMul2 (a b : Int) : Int := if lawMul a b > 3 then xorI (lawMul a b) 7 else lawMul a b
theorem lawMul2_eq {a b : Int} (ha : Sg a) (hb : Sg b) : lawMul2 a b = mulS a b := by
  rcases ha.cases with rfl | rfl | rfl | rfl <;> rcases hb.cases with rfl | rfl | rfl | rfl <;> decide +kernel
theorem mulS_Sg {a b : Int} (ha : Sg a) (hb : Sg b) : Sg (mulS a b) := by
  rcases ha.cases with rfl | rfl | rfl | rfl <;> rcases hb.cases with rfl | rfl | rfl | rfl <;> decide
theorem xor_0 {a : Int} (h : Sg a) : xorI 0 a = a := by rcases h.cases with rfl | rfl | rfl | rfl <;> decide +kernel
theorem xor_0r {a : Int} (h : Sg a) : xorI a 0 = a := by rcases h.cases with rfl | rfl | rfl | rfl <;> decide +kernel
theorem xor_Sg {a b : Int} (ha : Sg a) (hb : Sg b) : Sg (xorI a b) := by
  rcases ha.cases with rfl | rfl | rfl | rfl <;> rcases hb.cases with rfl | rfl | rfl | rfl <;> decide +kernel
theorem x3_eq {a b c : Int} (h : Sg a) : x3 a b c = xorI (xorI a b) c := by
  unfold x3
  rw [xor_0 h]
section
variable {P : Program} {w : World} {K : PySem.W.Frag} {mg : Str → Option Value} {base : Heap}
theorem ok_law_signs_product (F : FunM K mg "_law_signs_product" sLawSignsProduct) : Dfn P w K mg base CX0 1 "_law_signs_product" ["_law_one_so", "_law_two_so"] (spD K RSignProduct) := by
  refine dfn_of F scLawSignsProduct (fun _ _ _ _ _ _ us hl => match us, hl with | [_, _], _ => rfl) (fun ds d ⟨_, _, _, _, h, _⟩ => by rw [h]; rfl) ?_
  rintro f cdv A outer s H E hr ds d ⟨a, b, ha, hb, rfl, rfl⟩
  refine ⟨_, pss_cons (ps_set (i := 2) scLawSignsProduct.nd rfl (Or.inl rfl) (pe_op op_xor (pe_ifExp (pt_truth (pe_op op_and (pv 0) pe_int) (fun _ => rfl)) (pv 1) pe_int) (pe_ifExp (pt_truth (pe_op op_and (pv 0) pe_int) (fun _ => rfl)) (pe_op op_mul pe_int (pv 1)) pe_int)))
    (pss_one (ps_ret (pe_ifExp (pt_cmpR op_gt (pv 2) pe_int (nomark _)) (pe_op op_xor (pv 2) pe_int) (pv 2)))), ?_⟩
  refine s_seq (s_set (d := .int (lawMul a b)) (d_op (x := .int (if (Builtin.bitAnd a 1 != 0) = true then b else 0)) (y := .int (if (Builtin.bitAnd a 2 != 0) = true then 2 * b else 0))
    (d_if (b_truI (d_op (d_var rfl) d_int rd_int)) (fun h => ?_) fun h => ?_) (d_if (b_truI (d_op (d_var rfl) d_int rd_int)) (fun h => ?_) fun h => ?_) rd_int)) (s_ret (d_if (b_test (d_op (d_var rfl) d_int rd_cmp)) (fun h => ?_) fun h => ?_))
  · rw [if_pos h]
    exact d_var rfl
  · rw [if_neg (by rw [h]; decide)]
    exact d_int
  · rw [if_pos h]
    exact d_op d_int (d_var rfl) (rd_intC (f := fun i j => i * j) (.inl ⟨by decide, by decide⟩))
  · rw [if_neg (by rw [h]; decide)]
    exact d_int
  · rw [← lawMul2_eq ha hb, show lawMul2 a b = xorI (lawMul a b) 7 from if_pos (of_decide_eq_true h)]
    exact d_op (d_var rfl) d_int rd_int
  · rw [← lawMul2_eq ha hb, show lawMul2 a b = lawMul a b from if_neg (of_decide_eq_false h)]
    exact d_var rfl
theorem ok_law_word_by (F : FunM K mg "_law_word_by" sLawWordBy) (G : Dfn P w K mg base CX0 1 "_law_signs_product" ["_law_one_so", "_law_two_so"] (spD K RSignProduct)) :
    Dfn P w K mg base CX0 2 "_law_word_by" ["_law_one_so", "_law_two_so", "_law_three_so"] (spD K RBegunWord) := by
  refine dfn_of F scLawWordBy (fun _ _ _ _ _ _ us hl => match us, hl with | [_, _, _], _ => rfl) (fun ds d ⟨_, _, _, _, _, _, h, _⟩ => by rw [h]; rfl) ?_
  rintro f cdv A outer s H E hr ds d ⟨a, b, c, ha, hb, hc, rfl, rfl⟩
  refine ⟨_, pss_cons (ps_set (i := 3) scLawWordBy.nd rfl (Or.inl rfl) (pe_op op_xor (pe_op op_xor (pv 0) (pv 1)) (pv 2)))
    (pss_cons (ps_set (i := 4) scLawWordBy.nd rfl (Or.inl rfl) (pe_op op_xor (pe_op op_xor (pc G hr (pa_cons pe_int (pa_cons (pv 0) pa_nil))) (pc G hr (pa_cons pe_int (pa_cons (pv 1) pa_nil)))) (pv 2)))
    (pss_cons (ps_set (i := 5) scLawWordBy.nd rfl (Or.inl rfl) (pe_op op_xor (pe_op op_xor (pc G hr (pa_cons pe_int (pa_cons (pv 0) pa_nil))) (pc G hr (pa_cons pe_int (pa_cons (pv 1) pa_nil)))) (pv 2)))
    (pss_one (ps_ret (pe_tup (pa_cons (pv 0) (pa_cons (pv 1) (pa_cons (pv 2) (pa_cons (pv 3) (pa_cons (pv 4) (pa_cons (pv 5) pa_nil))))))))))), ?_⟩
  have s2 : Sg 2 := ⟨by decide, by decide⟩
  have s3 : Sg 3 := ⟨by decide, by decide⟩
  refine s_seq (s_set (d_op (d_op (d_var rfl) (d_var rfl) rd_int) (d_var rfl) rd_int)) ?_
  refine s_seq (s_set (d_op (d_op (d_call (da_cons d_int (da_cons (d_var rfl) da_nil)) ⟨3, a, s3, ha, rfl, rfl⟩) (d_call (da_cons d_int (da_cons (d_var rfl) da_nil)) ⟨2, b, s2, hb, rfl, rfl⟩) rd_int) (d_var rfl) rd_int)) ?_
  refine s_seq (s_set (d_op (d_op (d_call (da_cons d_int (da_cons (d_var rfl) da_nil)) ⟨2, a, s2, ha, rfl, rfl⟩) (d_call (da_cons d_int (da_cons (d_var rfl) da_nil)) ⟨3, b, s3, hb, rfl, rfl⟩) rd_int) (d_var rfl) rd_int)) ?_
  refine s_ret (EvD.to (d_tup (da_cons (d_var rfl) (da_cons (d_var rfl) (da_cons (d_var rfl) (da_cons (d_var rfl) (da_cons (d_var rfl) (da_cons (d_var rfl) da_nil)))))) (by show (6 : Nat) ≤ 100000; decide)) ?_)
  unfold wordP
  rw [x3_eq ha, x3_eq (mulS_Sg s3 ha), x3_eq (mulS_Sg s2 ha)]
  rfl
/-! ### lots -/
def signF (c : Int) (acc l : Int) : Int := xorI acc (l % 4 * (if decide (l / 4 = c) = true then 1 else 0))
def RLawSign (ds : List PyData) (d : PyData) : Prop := ∃ (L : List Int) (c : Int), L.length ≤ 1000 ∧ ds = [ti L, .int c] ∧ d = .int (L.foldl (signF c) 0)
theorem ok_law_sign (F : FunM K mg "_law_sign" sLawSign) (T : Blt mg) : Dfn P w K mg base CX0 1 "_law_sign" ["_law_lot_so", "_law_column_so"] (spD K RLawSign) := by
  refine dfn_of F scLawSign (fun _ _ _ _ _ _ us hl => match us, hl with | [_, _], _ => rfl) (fun ds d ⟨_, _, _, h, _⟩ => by rw [h]; rfl) ?_
  rintro f cdv A outer s H E hr ds d ⟨L, c, hl, rfl, rfl⟩
  refine ⟨_, pss_cons (ps_set (i := 2) scLawSign.nd rfl (Or.inl rfl) pe_int) (pss_cons (ps_for PassesOwn.never rfl (pi_tup (pv 0)) (pg_name (i := 3) scLawSign.nd rfl (Or.inl rfl))
    (pss_one (ps_set (i := 2) scLawSign.nd rfl (Or.inl rfl) (pe_op op_xor (pv 2) (pe_op op_mul (pe_op op_mod (pInt T (pv 3)) pe_int) (pInt T (pe_cmpR (op_eqD hr.units) (pe_op op_fdiv (pv 3) pe_int) (pv 1) (nomark _)))))))) (pss_one (ps_ret (pv 2)))), ?_⟩
  have m4 : (0 : Int) < 4 := by decide
  have loop := s_for (K := K) (δ := [some (ti L), some (.int c), some (.int 0), none]) (tb := tAsg (tOp (rI0 fun i j => .int (Builtin.bitXor i j)) (tVar 2) (tOp (rI CMul fun i j => .int (i * j)) (tOp (rI (fun _ j => 0 < j) fun i j => .int (i % j)) (tCB (fun xs H Q => (∃ i, xs = [.int i] ∧ Q (.int i) H) ∨ ∃ k, xs = [.bl k] ∧ Q (.int (if k then 1 else 0)) H) (tCons (tVar 3) tNil)) (tC (.int 4)))
      (tCB (fun xs H Q => (∃ i, xs = [.int i] ∧ Q (.int i) H) ∨ ∃ k, xs = [.bl k] ∧ Q (.int (if k then 1 else 0)) H) (tCons (tOp (rEqD K) (tOp (rI CDiv fun i j => .int (i / j)) (tVar 3) (tC (.int 4))) (tVar 1)) tNil)))) (gName 2))
    (fun i => [some (ti L), some (.int c), some (.int ((L.take i).foldl (signF c) 0)), none]) (w_tupI (n := 3) (d_var (i := 0) rfl)) (Fgt.refl _) (fun i hi => ?_)
  · rw [List.take_length] at loop
    exact s_seq (s_set d_int) (s_seq loop (s_ret (d_var rfl)))
  · refine s_fgt (s_set (d_op (d_var rfl) (d_op (d_op (d_cb (da_cons (d_var rfl) da_nil) rc_int) d_int (rd_intC (f := fun i j => i % j) m4)) (d_cb (da_cons (d_op (d_op (d_var rfl) d_int (rd_intC ⟨by decide, by decide⟩)) (d_var rfl) rd_eqI) da_nil) rc_intB) (rd_intC (f := fun i j => i * j) (.inl ⟨?_, ?_⟩))) rd_int)) ?_
    · have := Int.emod_nonneg (L.getD i 0) (show (4 : Int) ≠ 0 by decide); omega
    · have := Int.emod_lt_of_pos (L.getD i 0) m4; omega
    · have e : (L.take (i + 1)).foldl (signF c) 0 = signF c ((L.take i).foldl (signF c) 0) (L.getD i 0) := by
        rw [List.take_add_one, List.getElem?_eq_getElem hi, List.foldl_append, List.getD_eq_getElem?_getD, List.getElem?_eq_getElem hi]
        rfl
      rw [e]
      exact Fgt.set [some (ti L), some (.int c), some (.int (signF c ((L.take i).foldl (signF c) 0) (L.getD i 0))), some (.int (L.getD i 0))] 3
def RLawBits (ds : List PyData) (d : PyData) : Prop := ∃ L : List Int, L.length ≤ 1000 ∧ (∀ l ∈ L, Lamp l) ∧ ds = [ti L] ∧ d = .int ((L.map fun l => 1 * 2 ^ l.toNat).sum)
theorem given_map (f : Int → Int) (ns : List Int) : givenD ns.length (fun _ => true) (fun i => .int (f (ns.getD i 0))) = (ns.map f).map PyData.int := by
  rw [given_all, List.map_map]
  exact range_map_getD (fun x => PyData.int (f x)) ns
theorem ok_law_bits (F : FunM K mg "_law_bits" sLawBits) (T : Blt mg) : Dfn P w K mg base CX0 1 "_law_bits" ["_law_lot_so"] (spD K RLawBits) := by
  refine dfn_of F scLawBits (fun _ _ _ _ _ _ us hl => match us, hl with | [_], _ => rfl) (fun ds d ⟨_, _, _, h, _⟩ => by rw [h]; rfl) ?_
  rintro f cdv A outer s H E hr ds d ⟨L, hl, hL, rfl, rfl⟩
  refine ⟨_, pss_one (ps_ret (pSum T rfl (pe_lc (own := [("_law_own", 1)]) (g := gName 1) (tt := tYes) rfl scLawBits.nd (pi_tup (pv 0)) (blkOk_by (N := nLawBits) (sc := defScope sLawBits) (by decide +kernel))
    (fun _ _ _ _ _ => pg_name (i := 1) scLawBits.nd rfl (Or.inl rfl)) (fun _ _ _ _ _ => pts_nil) (fun _ _ _ _ _ => pe_op op_shl pe_int (pv 1))))), ?_⟩
  refine s_ret (d_cb (da_cons (EvD.to (z := li (L.map fun l => 1 * 2 ^ l.toNat)) (d_lc (w_tupI (n := 1) (d_var rfl)) (by omega) own1 (fun i hi => b_yes) (fun i hi _ => d_op d_int (d_var rfl) (rd_intC (f := fun i j => i * 2 ^ j.toNat) ?_))) (congrArg PyData.list (given_map (fun l => 1 * 2 ^ l.toNat) L))) da_nil) rc_sum)
  have lm := hL (L.getD i 0) (by
    rw [List.getD_eq_getElem?_getD, List.getElem?_eq_getElem hi]
    exact List.getElem_mem hi)
  exact ⟨lm.1, by have := lm.2; omega, by decide⟩
/-- the lamps of a number -/
def bitB (n : Int) (i : Nat) : Bool := Builtin.bitAnd (n / 2 ^ i) 1 != 0
def RLawLot (ds : List PyData) (d : PyData) : Prop := ∃ n : Int, ds = [.int n] ∧ d = ti (Lp (bitB n))
theorem ok_law_lot (F : FunM K mg "_law_lot" sLawLot) (T : Blt mg) : Dfn P w K mg base CX0 1 "_law_lot" ["_law_number_so"] (spD K RLawLot) := by
  refine dfn_of F scLawLot (fun _ _ _ _ _ _ us hl => match us, hl with | [_], _ => rfl) (fun ds d ⟨_, h, _⟩ => by rw [h]; rfl) ?_
  rintro f cdv A outer s H E hr ds d ⟨n, rfl, rfl⟩
  refine ⟨_, pss_one (ps_ret (pTup T (pe_lc (own := [("_law_own", 1)]) (g := gName 1) rfl scLawLot.nd (pi_range1 rfl T.range (pa_cons pe_int pa_nil)) (blkOk_by (N := nLawLot) (sc := defScope sLawLot) (by decide +kernel))
    (fun _ _ _ _ _ => pg_name (i := 1) scLawLot.nd rfl (Or.inl rfl)) (fun _ _ _ _ _ => pts_one (truK K (pe_op op_and (pe_op op_shr (pv 0) (pv 1)) pe_int) (fun _ => rfl))) (fun _ _ _ _ _ => pv 1)))), ?_⟩
  exact s_ret (d_cb (da_cons (EvD.to (z := li (Lp (bitB n))) (d_lc (w_rng1 (n := 1) (m := 24) (da_cons d_int da_nil) (by decide)) (by decide) own1 (fun i hi => b_truI (d_op (d_op (d_var rfl) (d_var rfl) (rd_intC (f := fun i j => i / 2 ^ j.toNat) (show (0 : Int) ≤ (i : Nat) by omega))) d_int rd_int)) (fun i hi _ => d_var rfl))
    (congrArg PyData.list (given_Lp (bitB n)))) da_nil) rc_tupL)
theorem rd_neB {a b : Bool} : RD K (rNeD K) (.bool a) (.bool b) (.bool (a ^^ b)) := by
  have h := rd_ne (K := K) (x := .bool a) (y := .bool b) rfl rfl
  have e : (!PyData.eqv (.bool a) (.bool b)) = (a ^^ b) := by cases a <;> cases b <;> rfl
  rw [e] at h
  exact h
theorem rd_eqB {a b : Bool} : RD K (rEqD K) (.bool a) (.bool b) (.bool (a == b)) := by
  have h := rd_eq (K := K) (x := .bool a) (y := .bool b) rfl rfl
  have e : (PyData.eqv (.bool a) (.bool b)) = (a == b) := by cases a <;> cases b <;> rfl
  rw [e] at h
  exact h
def xorB (p q : Nat → Bool) (i : Nat) : Bool := p i ^^ q i
def RLawLotSum (ds : List PyData) (d : PyData) : Prop := ∃ p q : Nat → Bool, ds = [ti (Lp p), ti (Lp q)] ∧ d = ti (Lp (xorB p q))
theorem given_LpN {p q : Nat → Bool} (h : ∀ i, i < 24 → p i = q i) : givenD 24 p (fun i => .int (i : Nat)) = givenD 24 q (fun i => .int (i : Nat)) := by
  unfold givenD
  rw [List.filter_congr fun i hi => h i (List.mem_range.mp hi)]
theorem ok_law_lot_sum (F : FunM K mg "_law_lot_sum" sLawLotSum) (T : Blt mg) : Dfn P w K mg base CX0 1 "_law_lot_sum" ["_law_one_so", "_law_two_so"] (spD K RLawLotSum) := by
  refine dfn_of F scLawLotSum (fun _ _ _ _ _ _ us hl => match us, hl with | [_, _], _ => rfl) (fun ds d ⟨_, _, h, _⟩ => by rw [h]; rfl) ?_
  rintro f cdv A outer s H E hr ds d ⟨p, q, rfl, rfl⟩
  refine ⟨_, pss_one (ps_ret (pTup T (pe_lc (own := [("_law_own", 2)]) (g := gName 2) rfl scLawLotSum.nd (pi_range1 rfl T.range (pa_cons pe_int pa_nil)) (blkOk_by (N := nLawLotSum) (sc := defScope sLawLotSum) (by decide +kernel))
    (fun _ _ _ _ _ => pg_name (i := 2) scLawLotSum.nd rfl (Or.inl rfl)) (fun _ _ _ _ _ => pts_one (pt_cmpR (neK K hr.units) (pe_cmpR (inK K) (pv 2) (pv 0) rfl) (pe_cmpR (inK K) (pv 2) (pv 1) rfl) (nomark _))) (fun _ _ _ _ _ => pv 2)))), ?_⟩
  refine s_ret (d_cb (da_cons (EvD.to (z := li (Lp (xorB p q))) (d_lc (w_rng1 (n := 2) (m := 24) (da_cons d_int da_nil) (by decide)) (by decide) own1 (fun i hi => b_test (d_op (d_op (d_var rfl) (d_var rfl) rd_inT) (d_op (d_var rfl) (d_var rfl) rd_inT) rd_neB)) (fun i hi _ => d_var rfl)) ?_) da_nil) rc_tupL)
  exact congrArg PyData.list ((given_LpN (q := xorB p q) fun i hi => by rw [mem_Lp_iff hi, mem_Lp_iff hi]; rfl).trans (given_Lp (xorB p q)))
def RLawPut (ds : List PyData) (d : PyData) : Prop := ∃ (ns : List Int) (k : Nat) (b : Int), ns.length = 24 ∧ k < 24 ∧ ds = [ti ns, .int (k : Nat), .int b] ∧ d = ti (ns.set k b)
theorem ok_law_put (F : FunM K mg "_law_put" sLawPut) : Dfn P w K mg base CX0 1 "_law_put" ["_law_row_so", "_law_place_so", "_law_bit_so"] (spD K RLawPut) := by
  refine dfn_of F scLawPut (fun _ _ _ _ _ _ us hl => match us, hl with | [_, _, _], _ => rfl) (fun ds d ⟨_, _, _, _, _, h, _⟩ => by rw [h]; rfl) ?_
  rintro f cdv A outer s H E hr ds d ⟨ns, k, b, hl, hk, rfl, rfl⟩
  refine ⟨_, pss_one (ps_ret (pe_op op_catA (pe_op op_catA (pe_slice sl_tupA (pv 0) po_none (po_some (pv 1))) (pe_tup (pa_cons (pv 2) pa_nil))) (pe_slice sl_tupA (pv 0) (po_some (pe_op op_add (pv 1) pe_int)) po_none))), ?_⟩
  have c1 : cutD (ns.map PyData.int) none (some (k : Int)) = (ns.take k).map PyData.int := by
    unfold cutD
    rw [HT.sIx_none, HT.sIx_nat, List.length_map, hl, List.drop_zero, List.map_take]
    rw [show min k 24 - 0 = k by omega]
  have c2 : cutD (ns.map PyData.int) (some ((k : Int) + 1)) none = (ns.drop (k + 1)).map PyData.int := by
    unfold cutD
    rw [show (k : Int) + 1 = ((k + 1 : Nat) : Int) by omega, HT.sIx_none, HT.sIx_nat, List.length_map, hl, List.map_drop, show min (k + 1) 24 = k + 1 by omega]
    rw [List.take_of_length_le]
    rw [List.length_drop, List.length_map, hl]
    omega
  refine s_ret (EvD.to (d_op (d_op (EvD.to (d_slice (d_var rfl) o_none (o_some (d_var rfl))) (congrArg PyData.tuple c1)) (d_tup (da_cons (d_var rfl) da_nil) (by show (1 : Nat) ≤ 100000; decide)) (rd_catT ?_))
    (EvD.to (d_slice (d_var rfl) (o_some (d_op (d_var rfl) d_int rd_int)) o_none) (congrArg PyData.tuple c2)) (rd_catT ?_)) ?_)
  · simp
    omega
  · simp
    omega
  · show PyData.tuple _ = PyData.tuple _
    rw [List.set_eq_take_append_cons_drop, if_pos (by omega), List.map_append, List.map_cons, List.append_assoc]
    rfl
theorem ok_law_length (F : FunM K mg "_law_length" sLawLength) (T : Blt mg) : Dfn P w K mg base CX0 1 "_law_length" ["_law_row_so"] (spD K fun ds d => ∃ ns : List Int, ns.length = 24 ∧ Bd ns ∧ ds = [ti ns] ∧ d = .int (sq ns / 8)) := by
  refine dfn_of F scLawLength (fun _ _ _ _ _ _ us hl => match us, hl with | [_], _ => rfl) (fun ds d ⟨_, _, _, h, _⟩ => by rw [h]; rfl) ?_
  rintro f cdv A outer s H E hr ds d ⟨ns, hl, hb, rfl, rfl⟩
  refine ⟨_, pss_one (ps_ret (pe_op op_fdiv (pSum T rfl (pe_lc (own := [("_law_own", 1)]) (g := gName 1) (tt := tYes) rfl scLawLength.nd (pi_tup (pv 0)) (blkOk_by (N := nLawLength) (sc := defScope sLawLength) (by decide +kernel))
    (fun _ _ _ _ _ => pg_name (i := 1) scLawLength.nd rfl (Or.inl rfl)) (fun _ _ _ _ _ => pts_nil) (fun _ _ _ _ _ => pe_op op_mul (pv 1) (pv 1)))) pe_int)), ?_⟩
  exact s_ret (d_op (d_cb (da_cons (EvD.to (z := li (tab fun i => ns.getD i 0 * ns.getD i 0)) (d_lc (src1 hl (d_var rfl)) (by decide) own1 (fun i hi => b_yes) (fun i hi _ => d_op (d_var rfl) (d_var rfl) (rd_intC (f := fun i j => i * j) (bd_mul hb hi _)))) (congrArg PyData.list (given_tab _))) da_nil) rc_sum) d_int (rd_intC ⟨by decide, by decide⟩))
theorem ok_law_long_product (F : FunM K mg "_law_long_product" sLawLongProduct) (T : Blt mg) : Dfn P w K mg base CX0 1 "_law_long_product" ["_law_one_so", "_law_two_so"] (spD K fun ds d => ∃ ns ms : List Int, ns.length = 24 ∧ ms.length = 24 ∧ Bd ns ∧ ds = [ti ns, ti ms] ∧ d = .int (dot ns ms / 8)) := by
  refine dfn_of F scLawLongProduct (fun _ _ _ _ _ _ us hl => match us, hl with | [_, _], _ => rfl) (fun ds d ⟨_, _, _, _, _, h, _⟩ => by rw [h]; rfl) ?_
  rintro f cdv A outer s H E hr ds d ⟨ns, ms, hl, hl2, hb, rfl, rfl⟩
  refine ⟨_, pss_one (ps_ret (pe_op op_fdiv (pSum T rfl (pe_lc (own := [("_law_near_so", 2), ("_law_far_so", 3)]) (g := gTup K 2 (gCons (gName 2) (gCons (gName 3) gNil))) (tt := tYes) rfl scLawLongProduct.nd (RZ.pi_zipA (by rfl) T.zip (pa_cons (pv 0) (pa_cons (pv 1) pa_nil))) (blkOk_by (N := nLawLongProduct) (sc := defScope sLawLongProduct) (by decide +kernel))
    (fun _ _ _ _ _ => pg_tup rfl (pgs_cons (pg_name (i := 2) scLawLongProduct.nd rfl (Or.inl rfl)) (pgs_cons (pg_name (i := 3) scLawLongProduct.nd rfl (Or.inl rfl)) pgs_nil))) (fun _ _ _ _ _ => pts_nil) (fun _ _ _ _ _ => pe_op op_mul (pv 2) (pv 3)))) pe_int)), ?_⟩
  exact s_ret (d_op (d_cb (da_cons (EvD.to (z := li (tab fun i => ns.getD i 0 * ms.getD i 0)) (d_lc (srcZ hl hl2 (da_cons (d_var (i := 0) rfl) (da_cons (d_var (i := 1) rfl) da_nil))) (by decide) own2 (fun i hi => b_yes) (fun i hi _ => d_op (d_var rfl) (d_var rfl) (rd_intC (f := fun i j => i * j) (bd_mul hb hi _)))) (congrArg PyData.list (given_tab _))) da_nil) rc_sum) d_int (rd_intC ⟨by decide, by decide⟩))
end
end Lo
/-! E2: the law's rule of long rows. -/
namespace Lo
open PySem PySem.Spec L2 Evl PyProof.Rows

/-! ### signs of a column -/
theorem signF_else {c acc : Int} {i : Nat} (h : ¬ (i : Int) / 4 = c) (ha : Sg acc) : signF c acc (i : Int) = acc := by
  unfold signF
  rw [decide_eq_false h, if_neg (by decide), Int.mul_zero]
  exact xor_0r ha
theorem signF_Sg {c acc : Int} {i : Nat} (ha : Sg acc) : Sg (signF c acc (i : Int)) := by
  by_cases h : (i : Int) / 4 = c
  · unfold signF
    rw [decide_eq_true h, if_pos rfl, Int.mul_one]
    exact xor_Sg ha ⟨by omega, by omega⟩
  · rw [signF_else h ha]
    exact ha
theorem sign_fold (p : Nat → Bool) (c : Int) : ∀ (l : List Nat) (acc : Int), Sg acc → l.foldl (fun acc i => if p i then signF c acc (i : Int) else acc) acc = (l.filter fun i : Nat => decide ((i : Int) / 4 = c)).foldl (fun acc i => if p i then signF c acc (i : Int) else acc) acc
  | [], _, _ => rfl
  | i :: l, acc, h => by
    rw [List.foldl_cons]
    have hs : Sg (if p i then signF c acc (i : Int) else acc) := by
      split
      · exact signF_Sg h
      · exact h
    rw [sign_fold p c l _ hs]
    by_cases hc : (i : Int) / 4 = c
    · rw [List.filter_cons_of_pos (p := fun i : Nat => decide ((i : Int) / 4 = c)) (decide_eq_true hc), List.foldl_cons]
    · rw [List.filter_cons_of_neg (p := fun i : Nat => decide ((i : Int) / 4 = c)) (by rw [decide_eq_false hc]; decide)]
      have e : (if p i = true then signF c acc (i : Int) else acc) = acc := by
        split
        · exact signF_else hc h
        · rfl
      rw [e]
theorem sign_Lp (p : Nat → Bool) {c : Nat} (hc : c < 6) : (Lp p).foldl (signF (c : Int)) 0 = sgn p c := by
  rw [fold_Lp, sign_fold p c _ 0 ⟨by decide, by decide⟩]
  have : c = 0 ∨ c = 1 ∨ c = 2 ∨ c = 3 ∨ c = 4 ∨ c = 5 := by omega
  rcases this with rfl | rfl | rfl | rfl | rfl | rfl
  · rw [show (List.range 24).filter (fun i : Nat => decide (((i : Int)) / 4 = ((0 : Nat) : Int))) = [0, 1, 2, 3] by decide +kernel]
    simp only [List.foldl_cons, List.foldl_nil, sgn]
    cases p 0 <;> cases p 1 <;> cases p 2 <;> cases p 3 <;> decide +kernel
  · rw [show (List.range 24).filter (fun i : Nat => decide (((i : Int)) / 4 = ((1 : Nat) : Int))) = [4, 5, 6, 7] by decide +kernel]
    simp only [List.foldl_cons, List.foldl_nil, sgn]
    cases p 4 <;> cases p 5 <;> cases p 6 <;> cases p 7 <;> decide +kernel
  · rw [show (List.range 24).filter (fun i : Nat => decide (((i : Int)) / 4 = ((2 : Nat) : Int))) = [8, 9, 10, 11] by decide +kernel]
    simp only [List.foldl_cons, List.foldl_nil, sgn]
    cases p 8 <;> cases p 9 <;> cases p 10 <;> cases p 11 <;> decide +kernel
  · rw [show (List.range 24).filter (fun i : Nat => decide (((i : Int)) / 4 = ((3 : Nat) : Int))) = [12, 13, 14, 15] by decide +kernel]
    simp only [List.foldl_cons, List.foldl_nil, sgn]
    cases p 12 <;> cases p 13 <;> cases p 14 <;> cases p 15 <;> decide +kernel
  · rw [show (List.range 24).filter (fun i : Nat => decide (((i : Int)) / 4 = ((4 : Nat) : Int))) = [16, 17, 18, 19] by decide +kernel]
    simp only [List.foldl_cons, List.foldl_nil, sgn]
    cases p 16 <;> cases p 17 <;> cases p 18 <;> cases p 19 <;> decide +kernel
  · rw [show (List.range 24).filter (fun i : Nat => decide (((i : Int)) / 4 = ((5 : Nat) : Int))) = [20, 21, 22, 23] by decide +kernel]
    simp only [List.foldl_cons, List.foldl_nil, sgn]
    cases p 20 <;> cases p 21 <;> cases p 22 <;> cases p 23 <;> decide +kernel
theorem b2_add (a b : Bool) : (b2 a + b2 b) % 2 = b2 (a ^^ b) := by cases a <;> cases b <;> rfl
theorem b2_zero (a : Bool) : decide (b2 a = 0) = !a := by cases a <;> rfl
section
variable {P : Program} {w : World} {K : PySem.W.Frag} {mg : Str → Option Value} {base : Heap}
theorem col_test (p : Nat → Bool) {c : Nat} (hc : c < 6) : (!decide ((((((Lp p).filter fun l => decide (l / 4 = (c : Int))).length : Nat) : Int) + ((((Lp p).filter fun l => decide (l % 4 = 0)).length : Nat) : Int)) % 2 = 0)) = (par p c ^^ top p) := by
  rw [Int.add_emod, colLen p hc, topLen p, b2_add, b2_zero, Bool.not_not]
theorem ok_law_is_right (F : FunM K mg "_law_is_right" sLawIsRight) (T : Blt mg) (G1 : Dfn P w K mg base CX0 1 "_law_sign" ["_law_lot_so", "_law_column_so"] (spD K RLawSign)) (G2 : Dfn P w K mg base CX0 2 "_law_word_by" ["_law_one_so", "_law_two_so", "_law_three_so"] (spD K RBegunWord)) :
    Dfn P w K mg base CX0 3 "_law_is_right" ["_law_lot_so"] (spD K RIsRight) := by
  refine dfn_of F scLawIsRight (fun _ _ _ _ _ _ us hl => match us, hl with | [_], _ => rfl) (fun ds d ⟨_, h, _⟩ => by rw [h]; rfl) ?_
  rintro f cdv A outer s H E hr ds d ⟨p, rfl, rfl⟩
  refine ⟨_, pss_cons (ps_set (i := 1) scLawIsRight.nd rfl (Or.inl rfl) (pLen T (pe_lc (own := [("_law_own", 4)]) (g := gName 4) rfl scLawIsRight.nd (pi_tup (pv 0)) (blkOk_by (N := nLawIsRight) (sc := defScope sLawIsRight) (by decide +kernel))
      (fun _ _ _ _ _ => pg_name (i := 4) scLawIsRight.nd rfl (Or.inl rfl)) (fun _ _ _ _ _ => pts_one (pt_cmpR (eqK K hr.units) (pe_op op_mod (pInt T (pv 4)) pe_int) pe_int (nomark _))) (fun _ _ _ _ _ => pv 4))))
    (pss_cons (ps_for PassesOwn.never rfl (pi_range1 rfl T.range (pa_cons pe_int pa_nil)) (pg_name (i := 2) scLawIsRight.nd rfl (Or.inr rfl))
      (pss_one (ps_if (pt_cmpR (op_neD hr.units) (pe_op op_mod (pInt T (pe_op op_add (pLen T (pe_lc (own := [("_law_own", 4)]) (g := gName 4) rfl scLawIsRight.nd (pi_tup (pv 0)) (blkOk_by (N := nLawIsRight) (sc := defScope sLawIsRight) (by decide +kernel))
        (fun _ _ _ _ _ => pg_name (i := 4) scLawIsRight.nd rfl (Or.inl rfl)) (fun _ _ _ _ _ => pts_one (pt_cmpR (eqK K hr.units) (pe_op op_fdiv (pv 4) pe_int) (pv 2) (nomark _))) (fun _ _ _ _ _ => pv 4))) (pv 1))) pe_int) pe_int (nomark _))
        (pss_one (ps_ret pe_bl)) pss_nil)))
    (pss_cons (ps_set (i := 3) scLawIsRight.nd rfl (Or.inl rfl) (pTup T (pe_lc (own := [("_law_column_so", 2)]) (g := gName 2) (tt := tYes) rfl scLawIsRight.nd (pi_range1 rfl T.range (pa_cons pe_int pa_nil)) (blkOk_by (N := nLawIsRight) (sc := defScope sLawIsRight) (by decide +kernel))
      (fun _ _ _ _ _ => pg_name (i := 2) scLawIsRight.nd rfl (Or.inl rfl)) (fun _ _ _ _ _ => pts_nil) (fun _ _ _ _ _ => pc G1 (hr.mono (by decide)) (pa_cons (pv 0) (pa_cons (pv 2) pa_nil))))))
    (pss_one (ps_ret (pe_cmpR (op_eqD hr.units) (pv 3) (pc G2 hr (pa_cons (pe_ix ix_tup (pv 3) pe_int (fun _ _ => rfl)) (pa_cons (pe_ix ix_tup (pv 3) pe_int (fun _ _ => rfl)) (pa_cons (pe_ix ix_tup (pv 3) pe_int (fun _ _ => rfl)) pa_nil)))) (nomark _)))))), ?_⟩
  have m4 : (0 : Int) < 4 := by decide
  have m2 : (0 : Int) < 2 := by decide
  have hl := len_Lp p
  have tops : ∀ δ : De, δ[0]? = some (some (ti (Lp p))) → δ.length = 5 → EvD K (tCB (fun xs H Q => ∃ p ys, xs = [.ref p] ∧ (SqL K H p ys ∨ SqT K H p ys) ∧ Q (.int ys.length) H) (tCons (tLc (iTup K (tVar 0)) (gName 4) (tTest (tOp (rEqD K) (tOp (rI (fun _ j => 0 < j) fun i j => .int (i % j))
      (tCB (fun xs H Q => (∃ i, xs = [.int i] ∧ Q (.int i) H) ∨ ∃ k, xs = [.bl k] ∧ Q (.int (if k then 1 else 0)) H) (tCons (tVar 4) tNil)) (tC (.int 4))) (tC (.int 0)))) (tVar 4) [4]) tNil)) δ
      (.int ((((Lp p).filter fun l => decide (l % 4 = 0)).length : Nat) : Int)) := fun δ h0 h5 =>
    EvD.to (d_cb (da_cons (EvD.to (z := li ((Lp p).filter fun l => decide (l % 4 = 0))) (d_lc (w_tupI (n := 4) (d_var h0)) (by omega) own1 (fun i hi => b_test (d_op (d_op (d_cb (da_cons (d_var (i := 4) (by
      show ((wipeD δ [4]).set 4 _)[4]? = _
      rw [List.getElem?_set, if_pos rfl, if_pos (by show 4 < (δ.set 4 none).length; rw [List.length_set, h5]; decide)])) da_nil) rc_int) d_int (rd_intC (f := fun i j => i % j) m4)) d_int rd_eqI)) (fun i hi _ => d_var (by
      show ((wipeD δ [4]).set 4 _)[4]? = _
      rw [List.getElem?_set, if_pos rfl, if_pos (by show 4 < (δ.set 4 none).length; rw [List.length_set, h5]; decide)]))) (congrArg PyData.list (given_filter (fun l => decide (l % 4 = 0)) (Lp p)))) da_nil) rc_lenL)
    (by rw [List.length_map])
  refine s_seq (s_set (tops _ rfl rfl)) ?_
  have src := w_rng1 (K := K) (n := 2) (m := 6) (δ := [some (ti (Lp p)), some (.int ((((Lp p).filter fun l => decide (l % 4 = 0)).length : Nat) : Int)), none, none, none]) (da_cons (d_int (i := 6)) da_nil) (by decide)
  have test : ∀ c : Nat, c < 6 → EvB K _ [some (ti (Lp p)), some (.int ((((Lp p).filter fun l => decide (l % 4 = 0)).length : Nat) : Int)), some (.int (c : Nat)), none, none] (par p c ^^ top p) := fun c hc =>
    EvB.to (b_test (d_op (d_op (d_cb (da_cons (d_op (EvD.to (z := .int ((((Lp p).filter fun l => decide (l / 4 = (c : Int))).length : Nat) : Int)) (d_cb (da_cons (EvD.to (z := li ((Lp p).filter fun l => decide (l / 4 = (c : Int)))) (d_lc (w_tupI (n := 4) (d_var (i := 0) rfl)) (by omega) own1
      (fun i hi => b_test (d_op (d_op (d_var (i := 4) rfl) (d_int (i := 4)) (rd_intC (f := fun i j => i / j) (C := CDiv) ⟨by decide, by decide⟩)) (d_var (i := 2) rfl) rd_eqI)) (fun i hi _ => d_var (i := 4) rfl)) (congrArg PyData.list (given_filter (fun l => decide (l / 4 = (c : Int))) (Lp p)))) da_nil) rc_lenL) (by rw [List.length_map]))
      (d_var (i := 1) rfl) (rd_int (f := fun i j => i + j))) da_nil) rc_int) (d_int (i := 2)) (rd_intC (f := fun i j => i % j) (C := fun _ j => 0 < j) m2)) (d_int (i := 0)) rd_neI)) (col_test p hc)
  have go : ∀ c : Nat, c < 6 → (par p c ^^ top p) = false → StD K _ (sets [some (ti (Lp p)), some (.int ((((Lp p).filter fun l => decide (l % 4 = 0)).length : Nat) : Int)), none, none, none] [(2, .int (c : Nat))]) (.next [some (ti (Lp p)), some (.int ((((Lp p).filter fun l => decide (l % 4 = 0)).length : Nat) : Int)), none, none, none]) := fun c hc h =>
    s_fgt (s_ifF (t := tRet (tC (.bl false))) (EvB.to (test c hc) h) s_next) (Fgt.set [some (ti (Lp p)), some (.int ((((Lp p).filter fun l => decide (l % 4 = 0)).length : Nat) : Int)), some (.int (c : Nat)), none, none] 2)
  have bx : ∀ a b : Bool, (a ^^ b) = false → (a == b) = true := by decide
  have bx2 : ∀ a b : Bool, (a ^^ b) = true → (a == b) = false := by decide
  cases hf : (List.range 6).find? fun c => par p c ^^ top p with
  | some m =>
    obtain ⟨h1, h2, h3⟩ := List.find?_range_eq_some.mp hf
    have hm := List.mem_range.mp h2
    have e : rightB p = false := by
      unfold rightB
      rw [show allEq p = false from by
        rw [Bool.eq_false_iff]
        intro z
        have := List.all_eq_true.mp z m h2
        rw [bx2 _ _ h1] at this
        cases this]
      rfl
    rw [e]
    refine s_seqR (s_forR (fun _ => [some (ti (Lp p)), some (.int ((((Lp p).filter fun l => decide (l % 4 = 0)).length : Nat) : Int)), none, none, none]) m hm src (Fgt.refl _) (fun i hi => go i (by omega) ?_) (s_ifT (EvB.to (test m hm) h1) (s_ret d_bl)))
    exact Bool.eq_false_iff.mpr fun z => by
      have := h3 i hi
      rw [z] at this
      cases this
  | none =>
    have h := List.find?_eq_none.mp hf
    have e : rightB p = wordB p := by
      unfold rightB
      rw [show allEq p = true from by
        unfold allEq
        rw [List.all_eq_true]
        intro c hc
        exact bx _ _ (Bool.eq_false_iff.mpr (h c hc))]
      rfl
    rw [e]
    have hS : EvD K _ [some (ti (Lp p)), some (.int ((((Lp p).filter fun l => decide (l % 4 = 0)).length : Nat) : Int)), none, none, none] (ti [sgn p 0, sgn p 1, sgn p 2, sgn p 3, sgn p 4, sgn p 5]) :=
      d_cb (da_cons (EvD.to (z := li [sgn p 0, sgn p 1, sgn p 2, sgn p 3, sgn p 4, sgn p 5]) (d_lc (f := fun _ => true) (val := fun c => .int (sgn p c)) (tt := tYes) (w_rng1 (K := K) (n := 2) (m := 6) (da_cons (d_int (i := 6)) da_nil) (by decide)) (by decide) own1 (fun i hi => b_yes)
        (fun i hi _ => d_call (R := RLawSign) (da_cons (d_var (i := 0) rfl) (da_cons (d_var (i := 2) rfl) da_nil)) ⟨Lp p, _, by omega, rfl, by rw [sign_Lp p hi]⟩)) (congrArg PyData.list given_all)) da_nil) rc_tupL
    refine s_seq (s_for (fun _ => [some (ti (Lp p)), some (.int ((((Lp p).filter fun l => decide (l % 4 = 0)).length : Nat) : Int)), none, none, none]) src (Fgt.refl _) fun i hi => go i hi (Bool.eq_false_iff.mpr (h i (List.mem_range.mpr hi)))) (s_seq (s_set hS) (s_ret (EvD.to (d_op (d_var rfl)
      (d_call (da_cons (d_op (d_var rfl) d_int (rd_at (i := 0) (by simp))) (da_cons (d_op (d_var rfl) d_int (rd_at (i := 1) (by simp))) (da_cons (d_op (d_var rfl) d_int (rd_at (i := 2) (by simp))) da_nil))) ⟨sgn p 0, sgn p 1, sgn p 2, sg_Sg _ _ _, sg_Sg _ _ _, sg_Sg _ _ _, rfl, rfl⟩) rd_eqT) ?_)))
    unfold wordB
    rw [show (decide ([sgn p 0, sgn p 1, sgn p 2, sgn p 3, sgn p 4, sgn p 5] = wordP (sgn p 0) (sgn p 1) (sgn p 2))) = decide (wordP (sgn p 0) (sgn p 1) (sgn p 2) = [sgn p 0, sgn p 1, sgn p 2, sgn p 3, sgn p 4, sgn p 5]) from by
      rw [Bool.eq_iff_iff, decide_eq_true_iff, decide_eq_true_iff]
      exact eq_comm]
end
end Lo
/-! E3: the law's break, odd lot, same. -/
namespace Lo
open PySem PySem.Spec L2 Evl PyProof.Rows

theorem shaped_li (ns : List Int) : SeqAt.shaped (li ns) = true := by
  unfold SeqAt.shaped
  rw [show PyData.canLay0 (li ns) = true from canLay_ints ns, show PyData.depth (li ns) = 1 from by
    show PyData.depthAll _ + 1 = 1
    rw [depth_ints]]
  rfl
section
variable {P : Program} {w : World} {K : PySem.W.Frag} {mg : Str → Option Value} {base : Heap}
theorem ok_law_break (F : FunM K mg "_law_break" sLawBreak) (T : Blt mg) (G : Dfn P w K mg base CX0 3 "_law_is_right" ["_law_lot_so"] (spD K RIsRight)) : Dfn P w K mg base CX0 4 "_law_break" ["_law_row_so"] (spD K RBreak) := by
  refine dfn_of F scLawBreak (fun _ _ _ _ _ _ us hl => match us, hl with | [_], _ => rfl) (fun ds d ⟨_, _, h, _⟩ => by rw [h]; rfl) ?_
  rintro f cdv A outer s H E hr ds d ⟨ns, hl, rfl, rfl⟩
  refine ⟨_, pss_cons (ps_set (i := 1) scLawBreak.nd rfl (Or.inr rfl) (pe_op op_mod (pInt T (pe_ix ix_tup (pv 0) pe_int (fun _ _ => rfl))) pe_int))
    (pss_cons (ps_for PassesOwn.never rfl (pi_enumT (by rfl) T.enum (pa_cons (pv 0) pa_nil)) (pg_tup rfl (pgs_cons (pg_name (i := 2) scLawBreak.nd rfl (Or.inl rfl)) (pgs_cons (pg_name (i := 3) scLawBreak.nd rfl (Or.inl rfl)) pgs_nil)))
      (pss_one (ps_if (pt_cmpR (op_neD hr.units) (pe_op op_mod (pInt T (pv 3)) pe_int) (pv 1) (nomark _)) (pss_one (ps_ret (pe_tup (pa_cons pe_str (pa_cons (pv 2) pa_nil))))) pss_nil)))
    (pss_cons (ps_set (i := 4) scLawBreak.nd rfl (Or.inl rfl) (pTup T (pe_lc (own := [("_law_k", 6), ("_law_own", 3)]) (g := gTup K 2 (gCons (gName 6) (gCons (gName 3) gNil))) rfl scLawBreak.nd (pi_enumT (by rfl) T.enum (pa_cons (pv 0) pa_nil))
      (blkOk_by (N := nLawBreak) (sc := defScope sLawBreak) (by decide +kernel)) (fun _ _ _ _ _ => pg_tup rfl (pgs_cons (pg_name (i := 6) scLawBreak.nd rfl (Or.inl rfl)) (pgs_cons (pg_name (i := 3) scLawBreak.nd rfl (Or.inl rfl)) pgs_nil)))
      (fun _ _ _ _ _ => pts_one (pt_cmpR (eqK K hr.units) (pe_op op_mod (pInt T (pe_op op_fdiv (pe_op op_sub (pv 3) (pv 1)) pe_int)) pe_int) pe_int (nomark _))) (fun _ _ _ _ _ => pv 6))))
    (pss_cons (ps_if (pt_not (pt_val (pc G hr (pa_cons (pv 4) pa_nil)))) (pss_one (ps_ret (pe_tup (pa_cons pe_str (pa_cons (pv 4) pa_nil))))) pss_nil)
    (pss_cons (ps_set (i := 5) scLawBreak.nd rfl (Or.inl rfl) (pe_op op_mod (pInt T (pe_op op_sub (pSumT T rfl (pv 0)) (pe_op op_mul pe_int (pv 1)))) pe_int))
    (pss_one (ps_ret (pe_ifExp (pt_cmpR (op_neD hr.units) (pv 5) pe_int (nomark _)) (pe_tup (pa_cons pe_str (pa_cons (pv 5) pa_nil))) pe_non))))))), ?_⟩
  have m2 : (0 : Int) < 2 := by decide
  have m8 : (0 : Int) < 8 := by decide
  have two : ∀ a b : PyData, [a, b].length ≤ 100000 := fun a b => by show (2 : Nat) ≤ 100000; decide
  refine s_seq (s_set (d_op (d_cb (da_cons (d_op (d_var rfl) d_int (rd_at0 (by omega))) da_nil) rc_int) d_int (rd_intC (f := fun i j => i % j) m2))) ?_
  generalize hm : ns.getD 0 0 % 2 = m
  have src := srcE (K := K) (m := 2) (n := 3) (δ := [some (ti ns), some (.int m), none, none, none, none, none]) hl (da_cons (d_var (i := 0) rfl) da_nil)
  have test : ∀ i : Nat, EvB K _ [some (ti ns), some (.int m), some (.int (i : Nat)), some (.int (ns.getD i 0)), none, none, none] (!decide (ns.getD i 0 % 2 = m)) := fun i =>
    b_test (d_op (d_op (d_cb (da_cons (d_var (i := 3) rfl) da_nil) rc_int) (d_int (i := 2)) (rd_intC (f := fun i j => i % j) (C := fun _ j => 0 < j) m2)) (d_var (i := 1) rfl) rd_neI)
  have go : ∀ i : Nat, (!decide (ns.getD i 0 % 2 = m)) = false → StD K _ (sets [some (ti ns), some (.int m), none, none, none, none, none] [(2, .int (i : Nat)), (3, .int (ns.getD i 0))]) (.next [some (ti ns), some (.int m), none, none, none, none, none]) := fun i hi => by
    refine s_fgt (s_ifF (t := tRet (tTup (tCons (tC (.str "mixed")) (tCons (tVar 2) tNil)))) (EvB.to (test i) hi) s_next) ?_
    exact (Fgt.set [some (ti ns), some (.int m), some (.int (i : Nat)), some (.int (ns.getD i 0)), none, none, none] 3).trans (Fgt.set [some (ti ns), some (.int m), some (.int (i : Nat)), none, none, none, none] 2)
  cases hp : mixedP ns with
  | some k =>
    have hp2 := hp
    unfold mixedP at hp2
    rw [hm, hl] at hp2
    obtain ⟨h1, h2, h3⟩ := List.find?_range_eq_some.mp hp2
    have e2 : breakD ns = .tuple [.str "mixed", .int (k : Nat)] := by unfold breakD; rw [hp]
    rw [e2]
    refine s_seqR (s_forR (fun _ => [some (ti ns), some (.int m), none, none, none, none, none]) k (List.mem_range.mp h2) src (Fgt.refl _) (fun i hi => go i ?_) (s_ifT (EvB.to (test k) h1) (s_ret (d_tup (da_cons d_str (da_cons (d_var rfl) da_nil)) (two _ _)))))
    exact Bool.eq_false_iff.mpr fun z => by
      have := h3 i hi
      rw [z] at this
      cases this
  | none =>
    have hp2 := hp
    unfold mixedP at hp2
    rw [hm, hl] at hp2
    have h := List.find?_eq_none.mp hp2
    refine s_seq (s_for (fun _ => [some (ti ns), some (.int m), none, none, none, none, none]) src (Fgt.refl _) fun i hi => go i (Bool.eq_false_iff.mpr (h i (List.mem_range.mpr hi)))) ?_
    have eo : ∀ i, decide ((ns.getD i 0 - m) / 2 % 2 = 1) = oddB ns i := fun i => by unfold oddB; rw [hm]
    refine s_seq (s_set (d_cb (da_cons (EvD.to (z := li (Lp (oddB ns))) (d_lc (srcE hl (da_cons (d_var (i := 0) rfl) da_nil)) (by decide) own2 (fun i hi => b_test (d_op (d_op (d_cb (da_cons (d_op (d_op (d_var rfl) (d_var rfl) rd_int) d_int (rd_intC ⟨by decide, by decide⟩)) da_nil) rc_int) d_int (rd_intC (f := fun i j => i % j) m2)) d_int rd_eqI)) (fun i hi _ => d_var rfl))
      ?_) da_nil) rc_tupL)) ?_
    · exact congrArg PyData.list ((given_LpN fun i _ => eo i).trans (given_Lp (oddB ns)))
    cases hrt : rightB (oddB ns) with
    | false =>
      have e2 : breakD ns = .tuple [.str "lot", ti (Lp (oddB ns))] := by unfold breakD; rw [hp, hrt]; rfl
      rw [e2]
      refine s_seqR (s_ifT (EvB.to (b_not (b_B (d_call (da_cons (d_var rfl) da_nil) ⟨oddB ns, rfl, rfl⟩))) ?_) (s_ret (d_tup (da_cons d_str (da_cons (d_var rfl) da_nil)) (two _ _))))
      rw [hrt]
      rfl
    | true =>
      have e2 : breakD ns = if restI ns = 0 then .none else .tuple [.str "sum", .int (restI ns)] := by unfold breakD; rw [hp, hrt]; rfl
      rw [e2]
      refine s_seq (s_ifF (EvB.to (b_not (b_B (d_call (da_cons (d_var rfl) da_nil) ⟨oddB ns, rfl, rfl⟩))) ?_) s_next) (s_seq (s_set (d_op (d_cb (da_cons (d_op (d_cb (da_cons (d_var rfl) da_nil) rc_sumT) (d_op d_int (d_var rfl) (rd_intC (.inl ⟨by decide, by decide⟩))) rd_int) da_nil) rc_int) d_int (rd_intC (f := fun i j => i % j) m8))) ?_)
      · rw [hrt]
        rfl
      · have e3 : (ns.sum - 4 * m) % 8 = restI ns := by unfold restI; rw [hm]
        rw [e3]
        refine s_ret (d_if (b := !decide (restI ns = 0)) (b_test (d_op (d_var rfl) d_int rd_neI)) (fun hb => ?_) fun hb => ?_)
        · have h0 : ¬ restI ns = 0 := by simpa using hb
          rw [if_neg h0]
          exact d_tup (da_cons d_str (da_cons (d_var rfl) da_nil)) (two _ _)
        · have h0 : restI ns = 0 := by simpa using hb
          rw [if_pos h0]
          exact d_non
def oddD (ns : List Int) : PyData := if (mixedP ns).isNone = true then ti (Lp (oddB ns)) else .none
def RLawOdd (ds : List PyData) (d : PyData) : Prop := ∃ ns : List Int, ns.length = 24 ∧ ds = [ti ns] ∧ d = oddD ns
theorem rd_neL0 {ns : List Int} : RD K (rNeD K) (li ns) (.list []) (.bool (!ns.isEmpty)) := by
  have h := rd_ne (K := K) (x := li ns) (y := li []) (shaped_li ns) (shaped_li [])
  have e : PyData.eqv (li ns) (li []) = ns.isEmpty := by
    show PyData.eqv (.list _) (.list _) = _
    rw [PyData.eqv, eqvAll_ints]
    cases ns <;> simp
  rw [e] at h
  exact h
theorem ok_law_odd (F : FunM K mg "_law_odd" sLawOdd) (T : Blt mg) : Dfn P w K mg base CX0 1 "_law_odd" ["_law_row_so"] (spD K RLawOdd) := by
  refine dfn_of F scLawOdd (fun _ _ _ _ _ _ us hl => match us, hl with | [_], _ => rfl) (fun ds d ⟨_, _, h, _⟩ => by rw [h]; rfl) ?_
  rintro f cdv A outer s H E hr ds d ⟨ns, hl, rfl, rfl⟩
  refine ⟨_, pss_cons (ps_set (i := 1) scLawOdd.nd rfl (Or.inr rfl) (pe_op op_mod (pInt T (pe_ix ix_tup (pv 0) pe_int (fun _ _ => rfl))) pe_int))
    (pss_cons (ps_if (pt_cmpR (op_neD hr.units) (pe_lc (own := [("_law_own", 2)]) (g := gName 2) rfl scLawOdd.nd (pi_tup (pv 0)) (blkOk_by (N := nLawOdd) (sc := defScope sLawOdd) (by decide +kernel)) (fun _ _ _ _ _ => pg_name (i := 2) scLawOdd.nd rfl (Or.inl rfl))
        (fun _ _ _ _ _ => pts_one (pt_cmpR (neK K hr.units) (pe_op op_mod (pInt T (pv 2)) pe_int) (pv 1) (nomark _))) (fun _ _ _ _ _ => pe_int)) (pe_lst pa_nil) (nomark _)) (pss_one (ps_ret pe_non)) pss_nil)
    (pss_one (ps_ret (pTup T (pe_lc (own := [("_law_k", 3), ("_law_own", 2)]) (g := gTup K 2 (gCons (gName 3) (gCons (gName 2) gNil))) rfl scLawOdd.nd (pi_enumT (by rfl) T.enum (pa_cons (pv 0) pa_nil))
      (blkOk_by (N := nLawOdd) (sc := defScope sLawOdd) (by decide +kernel)) (fun _ _ _ _ _ => pg_tup rfl (pgs_cons (pg_name (i := 3) scLawOdd.nd rfl (Or.inl rfl)) (pgs_cons (pg_name (i := 2) scLawOdd.nd rfl (Or.inl rfl)) pgs_nil)))
      (fun _ _ _ _ _ => pts_one (pt_cmpR (eqK K hr.units) (pe_op op_mod (pInt T (pe_op op_fdiv (pe_op op_sub (pv 2) (pv 1)) pe_int)) pe_int) pe_int (nomark _))) (fun _ _ _ _ _ => pv 3)))))), ?_⟩
  have m2 : (0 : Int) < 2 := by decide
  refine s_seq (s_set (d_op (d_cb (da_cons (d_op (d_var rfl) d_int (rd_at0 (by omega))) da_nil) rc_int) d_int (rd_intC (f := fun i j => i % j) m2))) ?_
  generalize hm : ns.getD 0 0 % 2 = m
  have test : EvB K _ [some (ti ns), some (.int m), none, none] _ := b_test (d_op (EvD.to (z := li (((List.range 24).filter fun i => !decide (ns.getD i 0 % 2 = m)).map fun _ => 1)) (d_lc (val := fun _ => .int 1) (f := fun i => !decide (ns.getD i 0 % 2 = m)) (src1 (n := 2) hl (d_var (i := 0) rfl)) (by decide) own1
    (fun i hi => b_test (d_op (d_op (d_cb (da_cons (d_var (i := 2) rfl) da_nil) rc_int) (d_int (i := 2)) (rd_intC (f := fun i j => i % j) (C := fun _ j => 0 < j) m2)) (d_var (i := 1) rfl) rd_neI)) (fun i hi _ => d_int)) (by unfold givenD; show PyData.list _ = PyData.list _; rw [List.map_map]; rfl)) (d_lst da_nil (by show (0 : Nat) ≤ 100000; decide)) rd_neL0)
  have eo : ∀ i, decide ((ns.getD i 0 - m) / 2 % 2 = 1) = oddB ns i := fun i => by unfold oddB; rw [hm]
  cases hp : mixedP ns with
  | some k =>
    have hp2 := hp
    unfold mixedP at hp2
    rw [hm, hl] at hp2
    obtain ⟨h1, h2, h3⟩ := List.find?_range_eq_some.mp hp2
    have e2 : oddD ns = .none := by unfold oddD; rw [hp]; rfl
    rw [e2]
    refine s_seqR (s_ifT (EvB.to test ?_) (s_ret d_non))
    have : ((List.range 24).filter fun i => !decide (ns.getD i 0 % 2 = m)) ≠ [] := fun z => by
      have hk : k ∈ ((List.range 24).filter fun i => !decide (ns.getD i 0 % 2 = m)) := List.mem_filter.mpr ⟨h2, h1⟩
      rw [z] at hk
      cases hk
    cases hx : ((List.range 24).filter fun i => !decide (ns.getD i 0 % 2 = m)) with
    | nil => exact absurd hx this
    | cons a l => rfl
  | none =>
    have hp2 := hp
    unfold mixedP at hp2
    rw [hm, hl] at hp2
    have h := List.find?_eq_none.mp hp2
    have e2 : oddD ns = ti (Lp (oddB ns)) := by unfold oddD; rw [hp]; rfl
    rw [e2]
    refine s_seq (s_ifF (EvB.to test ?_) s_next) (s_ret (d_cb (da_cons (EvD.to (z := li (Lp (oddB ns))) (d_lc (srcE hl (da_cons (d_var (i := 0) rfl) da_nil)) (by decide) own2 (fun i hi => b_test (d_op (d_op (d_cb (da_cons (d_op (d_op (d_var rfl) (d_var rfl) rd_int) d_int (rd_intC ⟨by decide, by decide⟩)) da_nil) rc_int) d_int (rd_intC (f := fun i j => i % j) m2)) d_int rd_eqI)) (fun i hi _ => d_var rfl))
      (congrArg PyData.list ((given_LpN fun i _ => eo i).trans (given_Lp (oddB ns))))) da_nil) rc_tupL))
    rw [List.filter_eq_nil_iff.mpr fun i hi => h i hi]
    rfl
end
end Lo
/-! E4: the law's same. -/
namespace Lo
open PySem PySem.Spec L2 Evl PyProof.Rows

/-- no list, no tuple -/
def Pl0 (x : PyData) : Prop := x = .none ∨ (∃ b, x = .bool b) ∨ (∃ i, x = .int i) ∨ ∃ s, x = .str s ∧ OkS s
/-- lists and tuples in lists and tuples, n deep -/
def Pl : Nat → PyData → Prop
  | 0, x => Pl0 x
  | n + 1, x => Pl0 x ∨ ∃ xs : List PyData, (x = .list xs ∨ x = .tuple xs) ∧ xs.length ≤ 1000 ∧ ∀ y ∈ xs, Pl n y
theorem Pl0.nd {x : PyData} (h : Pl0 x) : noDict x = true := by
  rcases h with rfl | ⟨b, rfl⟩ | ⟨i, rfl⟩ | ⟨s, rfl, _⟩ <;> rfl
theorem Pl0.up {x : PyData} (h : Pl0 x) : ∀ n, Pl n x
  | 0 => h
  | _ + 1 => .inl h
theorem Pl.up {x : PyData} : ∀ {n : Nat}, Pl n x → Pl (n + 1) x
  | 0, h => .inl h
  | n + 1, h => by
    rcases h with h | ⟨xs, h1, h2, h3⟩
    · exact .inl h
    · exact .inr ⟨xs, h1, h2, fun y hy => Pl.up (h3 y hy)⟩
theorem Pl.int (n : Nat) (i : Int) : Pl n (.int i) := Pl0.up (.inr (.inr (.inl ⟨i, rfl⟩))) n
theorem Pl.bool (n : Nat) (b : Bool) : Pl n (.bool b) := Pl0.up (.inr (.inl ⟨b, rfl⟩)) n
theorem Pl.none (n : Nat) : Pl n .none := Pl0.up (.inl rfl) n
theorem Pl.str (n : Nat) {s : Str} (h : OkS s) : Pl n (.str s) := Pl0.up (.inr (.inr (.inr ⟨s, rfl, h⟩))) n
theorem Pl.ti {n : Nat} {ns : List Int} (h : ns.length ≤ 1000) : Pl (n + 1) (ti ns) := .inr ⟨_, .inr rfl, by rw [List.length_map]; exact h, fun y hy => by
  obtain ⟨i, _, rfl⟩ := List.mem_map.mp hy
  exact Pl.int n i⟩
section
variable {P : Program} {w : World} {K : PySem.W.Frag} {mg : Str → Option Value} {base : Heap}
def RSame (n : Nat) (ds : List PyData) (d : PyData) : Prop := ∃ x : PyData, Pl n x ∧ ds = [x, x] ∧ d = .bool true
theorem bool_same {K : PySem.W.Frag} {δ : De} {a b : TE} {c : Bool} (h1 : EvD K a δ (.bool c)) (h2 : EvD K b δ (.bool c)) : EvD K (tOp (rEqD K) a b) δ (.bool true) := EvD.to (d_op h1 h2 rd_eqB) (by cases c <;> rfl)
theorem bool_diff {K : PySem.W.Frag} {δ : De} {a b : TE} {c : Bool} (h1 : EvD K a δ (.bool c)) (h2 : EvD K b δ (.bool c)) : EvD K (tOp (rNeD K) a b) δ (.bool false) := EvD.to (d_op h1 h2 rd_neB) (by cases c <;> rfl)
theorem ok_law_same0 {k : Nat} (F : FunM K mg "_law_same" sLawSame) (T : Blt mg) : Dfn P w K mg base CX0 (k + 1) "_law_same" ["_law_got", "_law_due"] (spD K (RSame 0)) := by
  refine dfn_of F scLawSame (fun _ _ _ _ _ _ us hl => match us, hl with | [_, _], _ => rfl) (fun ds d ⟨_, _, h, _⟩ => by rw [h]; rfl) ?_
  rintro f cdv A outer s H E hr ds d ⟨x, hx, rfl, rfl⟩
  refine ⟨_, pss_cons (ps_if (pt_val (pIsiT T (pv 1) (pe_tup (pa_cons (cList T) (pa_cons (cTuple T) pa_nil))))) pss_never pss_nil)
    (pss_cons (ps_if (PW.pt (pw_or (pt_cmpR op_isN (pv 1) pe_non (nomark _)) (pw_or1 (pt_val (pIsiT T (pv 1) (pe_tup (pa_cons (cBool T) (pa_cons (cStr T) pa_nil))))))))
      (pss_one (ps_ret (pe_and (pe_cmpR (op_eqD hr.units) (pv 0) (pv 1) (nomark _)) (pe_and (pe_cmpR (op_eqD hr.units) (pIsi T (pv 0) (cBool T)) (pIsi T (pv 1) (cBool T)) (nomark _))
        (pe_one (pe_cmpR (op_eqD hr.units) (pe_cmpR op_isN (pv 0) pe_non (nomark _)) (pe_cmpR op_isN (pv 1) pe_non (nomark _)) (nomark _))))))) pss_nil)
    (pss_one (ps_ret (pe_and (pIsi T (pv 0) (cInt T)) (pe_and (pe_not (pIsi T (pv 0) (cBool T))) (pe_one (pe_cmpR (op_eqD hr.units) (pv 0) (pv 1) (nomark _)))))))), ?_⟩
  have nd := Pl0.nd hx
  have seq : (isLi x || isTu x) = false := by rcases hx with rfl | ⟨b, rfl⟩ | ⟨i, rfl⟩ | ⟨s, rfl, _⟩ <;> rfl
  refine s_seq (s_ifF (b_B (EvD.to (d_isiT (d_var rfl) (kLi x nd) (kTu x nd)) (congrArg PyData.bool seq))) s_next) ?_
  have test : EvB K _ [some x, some x, none, none] _ := b_or (b_test (d_op (d_var (i := 1) rfl) d_non (rd_isN (d := x)))) fun _ => b_B (d_isiT (d_var (i := 1) rfl) (kBo x nd) (kSt x nd))
  have is1 : ∀ i, i < 2 → EvD K (tCB (rIsi K) (tCons (tVar i) (tCons (tC (.ty "bool")) tNil))) [some x, some x, none, none] (.bool (isBo x)) := fun i hi => by
    refine d_isi (d_var ?_) (kBo x nd)
    rcases i with _ | _ | i
    · rfl
    · rfl
    · omega
  have rest : SeqAt.shaped x = true → PyData.eqv x x = true → EvD K _ [some x, some x, none, none] (.bool true) := fun hs he => d_andV (b := true) (c := true) (EvD.to (d_op (d_var (i := 0) rfl) (d_var (i := 1) rfl) (rd_eq hs hs)) (congrArg PyData.bool he))
    fun _ => d_andV (b := true) (c := true) (bool_same (is1 0 (by decide)) (is1 1 (by decide))) fun _ => bool_same (d_op (d_var (i := 0) rfl) d_non rd_isN) (d_op (d_var (i := 1) rfl) d_non rd_isN)
  rcases hx with rfl | ⟨b, rfl⟩ | ⟨i, rfl⟩ | ⟨s, rfl, hs⟩
  · exact s_seqR (s_ifT test (s_ret (rest rfl rfl)))
  · exact s_seqR (s_ifT test (s_ret (rest rfl (by cases b <;> rfl))))
  · refine s_seq (s_ifF test s_next) (s_ret (d_andV (b := true) (c := true) (d_isi (d_var rfl) (kIn (.int i) rfl)) fun _ => d_andV (b := true) (c := true) (d_notV (b := false) (d_isi (d_var rfl) (kBo (.int i) rfl))) fun _ => EvD.to (d_op (d_var rfl) (d_var rfl) rd_eqI) (by rw [decide_eq_true rfl])))
  · refine s_seqR (s_ifT test (s_ret (rest hs ?_)))
    rw [PyData.eqv]
    simp
theorem ok_law_same (F : FunM K mg "_law_same" sLawSame) (T : Blt mg) : ∀ n, Dfn P w K mg base CX0 (n + 1) "_law_same" ["_law_got", "_law_due"] (spD K (RSame n))
  | 0 => ok_law_same0 F T
  | n + 1 => by
    have G := ok_law_same F T n
    refine dfn_of F scLawSame (fun _ _ _ _ _ _ us hl => match us, hl with | [_, _], _ => rfl) (fun ds d ⟨_, _, h, _⟩ => by rw [h]; rfl) ?_
    rintro f cdv A outer s H E hr ds d ⟨x, hx, rfl, rfl⟩
    rcases hx with hx | ⟨xs, hx, hl, hp⟩
    · -- as at no depth
      refine ⟨_, pss_cons (ps_if (pt_val (pIsiT T (pv 1) (pe_tup (pa_cons (cList T) (pa_cons (cTuple T) pa_nil))))) pss_never pss_nil)
        (pss_cons (ps_if (PW.pt (pw_or (pt_cmpR op_isN (pv 1) pe_non (nomark _)) (pw_or1 (pt_val (pIsiT T (pv 1) (pe_tup (pa_cons (cBool T) (pa_cons (cStr T) pa_nil))))))))
          (pss_one (ps_ret (pe_and (pe_cmpR (op_eqD hr.units) (pv 0) (pv 1) (nomark _)) (pe_and (pe_cmpR (op_eqD hr.units) (pIsi T (pv 0) (cBool T)) (pIsi T (pv 1) (cBool T)) (nomark _))
            (pe_one (pe_cmpR (op_eqD hr.units) (pe_cmpR op_isN (pv 0) pe_non (nomark _)) (pe_cmpR op_isN (pv 1) pe_non (nomark _)) (nomark _))))))) pss_nil)
        (pss_one (ps_ret (pe_and (pIsi T (pv 0) (cInt T)) (pe_and (pe_not (pIsi T (pv 0) (cBool T))) (pe_one (pe_cmpR (op_eqD hr.units) (pv 0) (pv 1) (nomark _)))))))), ?_⟩
      have nd := Pl0.nd hx
      have seq : (isLi x || isTu x) = false := by rcases hx with rfl | ⟨b, rfl⟩ | ⟨i, rfl⟩ | ⟨s, rfl, _⟩ <;> rfl
      refine s_seq (s_ifF (b_B (EvD.to (d_isiT (d_var rfl) (kLi x nd) (kTu x nd)) (congrArg PyData.bool seq))) s_next) ?_
      have test : EvB K _ [some x, some x, none, none] _ := b_or (b_test (d_op (d_var (i := 1) rfl) d_non (rd_isN (d := x)))) fun _ => b_B (d_isiT (d_var (i := 1) rfl) (kBo x nd) (kSt x nd))
      have is1 : ∀ i, i < 2 → EvD K (tCB (rIsi K) (tCons (tVar i) (tCons (tC (.ty "bool")) tNil))) [some x, some x, none, none] (.bool (isBo x)) := fun i hi => by
        refine d_isi (d_var ?_) (kBo x nd)
        rcases i with _ | _ | i
        · rfl
        · rfl
        · omega
      have rest : SeqAt.shaped x = true → PyData.eqv x x = true → EvD K _ [some x, some x, none, none] (.bool true) := fun hs he => d_andV (b := true) (c := true) (EvD.to (d_op (d_var (i := 0) rfl) (d_var (i := 1) rfl) (rd_eq hs hs)) (congrArg PyData.bool he))
        fun _ => d_andV (b := true) (c := true) (bool_same (is1 0 (by decide)) (is1 1 (by decide))) fun _ => bool_same (d_op (d_var (i := 0) rfl) d_non rd_isN) (d_op (d_var (i := 1) rfl) d_non rd_isN)
      rcases hx with rfl | ⟨b, rfl⟩ | ⟨i, rfl⟩ | ⟨s, rfl, hs⟩
      · exact s_seqR (s_ifT test (s_ret (rest rfl rfl)))
      · exact s_seqR (s_ifT test (s_ret (rest rfl (by cases b <;> rfl))))
      · refine s_seq (s_ifF test s_next) (s_ret (d_andV (b := true) (c := true) (d_isi (d_var rfl) (kIn (.int i) rfl)) fun _ => d_andV (b := true) (c := true) (d_notV (b := false) (d_isi (d_var rfl) (kBo (.int i) rfl))) fun _ => EvD.to (d_op (d_var rfl) (d_var rfl) rd_eqI) (by rw [decide_eq_true rfl])))
      · refine s_seqR (s_ifT test (s_ret (rest hs ?_)))
        rw [PyData.eqv]
        simp
    · refine ⟨_, pss_cons (ps_if (pt_val (pIsiT T (pv 1) (pe_tup (pa_cons (cList T) (pa_cons (cTuple T) pa_nil)))))
          (pss_cons (ps_if (PW.pt (pw_or (pt_cmpR (op_neD hr.units) (pIsi T (pv 0) (cList T)) (pIsi T (pv 1) (cList T)) (nomark _)) (pw_or1 (pt_cmpR (op_neD hr.units) (pIsi T (pv 0) (cTuple T)) (pIsi T (pv 1) (cTuple T)) (nomark _))))) (pss_one (ps_ret pe_bl)) pss_nil)
            (pss_one (ps_ret (pe_and (pe_cmpR (op_eqD hr.units) (pLen T (pv 0)) (pLen T (pv 1)) (nomark _)) (pe_one (pAll T rfl (pe_lc (own := [("_law_mine", 2), ("_law_its", 3)]) (g := gTup K 2 (gCons (gName 2) (gCons (gName 3) gNil))) (tt := tYes) rfl scLawSame.nd
              (RZ.pi_zipA (by rfl) T.zip (pa_cons (pv 0) (pa_cons (pv 1) pa_nil))) (blkOk_by (N := nLawSame) (sc := defScope sLawSame) (by decide +kernel))
              (fun _ _ _ _ _ => pg_tup rfl (pgs_cons (pg_name (i := 2) scLawSame.nd rfl (Or.inl rfl)) (pgs_cons (pg_name (i := 3) scLawSame.nd rfl (Or.inl rfl)) pgs_nil))) (fun _ _ _ _ _ => pts_nil) (fun _ _ _ _ _ => pc G hr (pa_cons (pv 2) (pa_cons (pv 3) pa_nil)))))))))) pss_nil)
        pss_never, ?_⟩
      have fin : ∀ i, i < xs.length → RSame n [xs.getD i .none, xs.getD i .none] (.bool true) := fun i hi => ⟨xs.getD i .none, hp _ (by
        rw [List.getD_eq_getElem?_getD, List.getElem?_eq_getElem hi]
        exact List.getElem_mem hi), rfl, rfl⟩
      have e1 : ((List.range xs.length).all fun _ => true) = true := by simp
      rcases hx with rfl | rfl
      · refine s_seqR (s_ifT (b_B (EvD.to (d_isiT (d_var rfl) (kLi (.list xs) rfl) (kTu (.list xs) rfl)) rfl)) (s_seq (s_ifF (EvB.to (b_or (b_test (bool_diff (d_isi (d_var rfl) (kLi (.list xs) rfl)) (d_isi (d_var rfl) (kLi (.list xs) rfl)))) fun _ => b_test (bool_diff (d_isi (d_var rfl) (kTu (.list xs) rfl)) (d_isi (d_var rfl) (kTu (.list xs) rfl)))) rfl) s_next)
          (s_ret (d_andV (b := true) (c := true) (EvD.to (d_op (d_cb (da_cons (d_var rfl) da_nil) rc_lenL) (d_cb (da_cons (d_var rfl) da_nil) rc_lenL) rd_eqI) (by rw [decide_eq_true rfl])) fun _ => EvD.to (d_all (f := fun _ => true) (d_lc (val := fun _ => .bool true) (n := xs.length) ?_ (by omega) own2 (fun i hi => b_yes) fun i hi _ => d_call (da_cons (d_var rfl) (da_cons (d_var rfl) da_nil)) (fin i hi))) (by rw [e1])))))
        have z := w_zipL (K := K) (m := 2) (n := 3) (δ := [some (.list xs), some (.list xs), none, none]) (da_cons (d_var (i := 0) rfl) (da_cons (d_var (i := 1) rfl) da_nil))
        rw [Nat.min_self] at z
        exact z
      · refine s_seqR (s_ifT (b_B (EvD.to (d_isiT (d_var rfl) (kLi (.tuple xs) rfl) (kTu (.tuple xs) rfl)) rfl)) (s_seq (s_ifF (EvB.to (b_or (b_test (bool_diff (d_isi (d_var rfl) (kLi (.tuple xs) rfl)) (d_isi (d_var rfl) (kLi (.tuple xs) rfl)))) fun _ => b_test (bool_diff (d_isi (d_var rfl) (kTu (.tuple xs) rfl)) (d_isi (d_var rfl) (kTu (.tuple xs) rfl)))) rfl) s_next)
          (s_ret (d_andV (b := true) (c := true) (EvD.to (d_op (d_cb (da_cons (d_var rfl) da_nil) rc_len) (d_cb (da_cons (d_var rfl) da_nil) rc_len) rd_eqI) (by rw [decide_eq_true rfl])) fun _ => EvD.to (d_all (f := fun _ => true) (d_lc (val := fun _ => .bool true) (n := xs.length) ?_ (by omega) own2 (fun i hi => b_yes) fun i hi _ => d_call (da_cons (d_var rfl) (da_cons (d_var rfl) da_nil)) (fin i hi))) (by rw [e1])))))
        have z := w_zipT (K := K) (m := 2) (n := 3) (δ := [some (.tuple xs), some (.tuple xs), none, none]) (da_cons (d_var (i := 0) rfl) (da_cons (d_var (i := 1) rfl) da_nil))
        rw [Nat.min_self] at z
        exact z
end
end Lo
/-! E5: the law's heard. -/
namespace Lo
open PySem PySem.Spec L2 Evl PyProof.Rows

/-- the suite of a clause: [s, isinstance(error, ValueError)], if the exception is of the class C -/
def tsHeard (K : PySem.W.Frag) (s : Str) (C : Addr) : Addr → Value → Option Addr → TS := fun a cls d D σ H => cls = .ref C ∧ d = none ∧
  tRet (tLst (tCons (tC (.str s)) (tCons (tCB (rIsE K C a) (tCons (tVar 2) (tCons (tC (.ty "ValueError")) tNil))) tNil))) D σ H
def heardL (s : Str) : PyData := .list [.str s, .bool true]
def hdsHeard : List ExceptHandler := match defBody sLawHeard with
  | [.Try _ hs _ _ _] => hs
  | _ => []
def clsHeard (K : PySem.W.Frag) (U N W : Addr) : List Cl := [(.ref N, tsHeard K "no paper" N), (.ref W, tsHeard K "no way" W), (.ref U, tsHeard K "unfit" U)]
/-- a def out of [f0, f1, f2] at door i -/
def tDoor (K : PySem.W.Frag) (f0 f1 f2 : Addr) : TE := tOp (rIxL K) (tLst (tCons (tC (.ref f0)) (tCons (tC (.ref f1)) (tCons (tC (.ref f2)) tNil)))) (tVar 0)
section
variable {K : PySem.W.Frag} {U N W f0 f1 f2 f : Addr} {i : Nat} {R : List PyData → PyData → Prop} {RX : List PyData → Value → Prop} {x d : PyData} {s : Str}
theorem door_at {σ : L2.St} {A : Hd} {Q : VK} (k : KnS K σ A.k [some (.int (i : Nat)), some x, none]) (hi : [f0, f1, f2][i]? = some f) (q : ∀ B, Pr A B → Q (.ref f) B.h) : tDoor K f0 f1 f2 σ A.h Q := by
  refine ⟨by show 3 ≤ sizeLine; decide, fun p hp => ?_⟩
  obtain ⟨v, h1, h2⟩ := k.2 0 (.int (i : Nat)) rfl
  cases h2
  refine ⟨_, h1, p, _, (i : Nat), .ref f, rfl, rfl, SqL.of upd_same, atI_nat ?_, q (A.mut p _ (A.kn hp)) ⟨Ex.refl _, Ex.new hp, fun _ h _ => h⟩⟩
  rcases i with _ | _ | _ | i
  · cases hi
    rfl
  · cases hi
    rfl
  · cases hi
    rfl
  · cases hi
/-- the list of a clause -/
theorem heard_list {C : Addr} {D : Ends} {σ : L2.St} {A B : Hd} (ve : PySem.W.kitOne K (.ref C) (.type "ValueError") = some true) (k : KnS K σ A.k [some (.int (i : Nat)), some x, none]) (e : Pr A B) (q : ∀ v E, Pr A E → Da K E.k v (heardL s) → D.rt v E.h) (a : Addr) :
    tsHeard K s C a (.ref C) none (goneE 2 D) (σ.set 2 (some (.ref a))) B.h := by
  have hl : σ.length = 3 := k.1
  refine ⟨rfl, rfl, _, ?_, .ty "ValueError", .type "ValueError", true, rfl, fun u hu => hu, ve, by show 2 ≤ sizeLine; decide, fun p hp => ?_⟩
  · rw [List.getElem?_set, if_pos rfl, if_pos (by omega)]
  · exact q _ (B.new p _ hp) (e.trans (B.pr hp)) (.lst (B.at hp) (.cons (.str s) (.cons (.bl true) .nil)))
/-- the call in the try's body: a value -/
theorem try_val {D : Ends} {W' : WX} {σ : L2.St} {A : Hd} (k : KnS K σ A.k [some (.int (i : Nat)), some x, none]) (hi : [f0, f1, f2][i]? = some f) (hR : R [x] d) (q : ∀ v E, Pr A E → Da K E.k v d → D.rt v E.h) :
    tRet (tCallV f (spX K R RX) (WE W') (tDoor K f0 f1 f2) (tCons (tVar 1) tNil)) D σ A.h := by
  refine door_at k hi fun B e1 => ⟨rfl, ?_⟩
  obtain ⟨v, h1, h2⟩ := k.2 1 x rfl
  exact ⟨v, h1, B, [x], rfl, .cons (h2.ex e1.k) .nil, .inl ⟨d, hR, fun v E e2 h => q v E (e1.trans e2) h⟩⟩
/-- .. an exception -/
theorem try_exc {D : Ends} {W' : WX} {c : Value} {σ : L2.St} {A : Hd} (k : KnS K σ A.k [some (.int (i : Nat)), some x, none]) (hi : [f0, f1, f2][i]? = some f) (hR : RX [x] c) (q : ∀ B, Pr A B → W' c none σ B.h) :
    tRet (tCallV f (spX K R RX) (WE W') (tDoor K f0 f1 f2) (tCons (tVar 1) tNil)) D σ A.h := by
  refine door_at k hi fun B e1 => ⟨rfl, ?_⟩
  obtain ⟨v, h1, h2⟩ := k.2 1 x rfl
  exact ⟨v, h1, B, [x], rfl, .cons (h2.ex e1.k) .nil, .inr ⟨c, hR, fun C e2 => q C (e1.trans e2)⟩⟩
end
/-- what is heard at a door -/
def heardD (i : Nat) (ns : List Int) : PyData := match i with
  | 0 => if longB ns = true then heardL "no paper" else breakD ns
  | 1 => if (mixedP ns).isNone = true then ti (Lp (oddB ns)) else heardL "unfit"
  | _ => if noWayB ns = true then heardL "no way" else ti (hlf ns)
def RHeard (ds : List PyData) (d : PyData) : Prop := ∃ (i : Nat) (ns : List Int) (x : PyData), ns.length = 24 ∧ AsL ns x ∧ i < 3 ∧ (i = 2 → longB ns = true) ∧ ds = [.int (i : Nat), x] ∧ d = heardD i ns
section
variable {P : Program} {w : World} {K : PySem.W.Frag} {mg : Str → Option Value} {base : Heap}
theorem asl_ds {ns : List Int} {x : PyData} (h : AsL ns x) : [x] = [ti ns] ∨ [x] = [li ns] := by
  rcases h with rfl | rfl
  · exact .inl rfl
  · exact .inr rfl
theorem names_of {X : Cx} {x : Str} {C : Addr} (e : Exn X.K X.mg x C) (hg : Gl X x) (h : (x == ("__debug__" : Str)) = false) : Names X x (.ref C) := ⟨hg, h, .inl e.gl⟩
theorem ok_law_heard {U N W : Addr} (E3 : Exns K mg U N W) (F : FunM K mg "_law_heard" sLawHeard) (T : Blt mg) (G0 : Dfn P w K mg base (L2.CX P w) 8 "rule_broken" ["row"] (spX K RRule (XRule N))) (G1 : Dfn P w K mg base (L2.CX P w) 4 "odd_lot" ["row"] (spX K ROddLot (XOddLot U)))
    (G2 : Dfn P w K mg base (L2.CX P w) 10 "half_long" ["long"] (spX K RHalf (XHalf W))) : Dfn P w K mg base CX0 11 "_law_heard" ["_law_door", "_law_row_so"] (spD K RHeard) := by
  refine dfn_of F scLawHeard (fun _ _ _ _ _ _ us hl => match us, hl with | [_, _], _ => rfl) (fun ds d ⟨_, _, _, _, _, _, _, h, _⟩ => by rw [h]; rfl) ?_
  rintro f cdv A outer s H E hr ds d ⟨i, ns, x, hl, hx, hi, h2, rfl, rfl⟩
  obtain ⟨f0, fd0, F0, hm0, hk0, hb0⟩ := G0.ex
  obtain ⟨f1, fd1, F1, hm1, hk1, hb1⟩ := G1.ex
  obtain ⟨f2, fd2, F2, hm2, hk2, hb2⟩ := G2.ex
  have cl : ClsOk (cxOf CX0 P w K mg base nLawHeard "_law_heard" (defScope sLawHeard) f cdv A outer s H E).nox "error" hdsHeard (clsHeard K U N W) :=
    .cons (x := "NoPaper") ⟨by rfl, by decide, .inl E3.n.gl⟩ (fun a oe cls d pn hz hf => ⟨fun pins s σ H D I ⟨e1, e2, h⟩ => by
      subst e1 e2
      exact (pss_one (ps_ret (pe_lst (pa_cons pe_str (pa_cons (pe_callB (call_isE E3.n.ec hz hf) (by rfl) T.isi PyProof.Rows.boot_isinstance (pa_cons (pv 2) (pa_cons (pe_bltn (v := .ty "ValueError") (u := .type "ValueError") (by rfl) T.ve (by decide +kernel) rfl) pa_nil)) (by decide) (by decide)) pa_nil))))).run pins s σ H D I h⟩)
    (.cons (x := "NoWay") ⟨by rfl, by decide, .inl E3.w.gl⟩ (fun a oe cls d pn hz hf => ⟨fun pins s σ H D I ⟨e1, e2, h⟩ => by
      subst e1 e2
      exact (pss_one (ps_ret (pe_lst (pa_cons pe_str (pa_cons (pe_callB (call_isE E3.w.ec hz hf) (by rfl) T.isi PyProof.Rows.boot_isinstance (pa_cons (pv 2) (pa_cons (pe_bltn (v := .ty "ValueError") (u := .type "ValueError") (by rfl) T.ve (by decide +kernel) rfl) pa_nil)) (by decide) (by decide)) pa_nil))))).run pins s σ H D I h⟩)
    (.cons (x := "Unfit") ⟨by rfl, by decide, .inl E3.u.gl⟩ (fun a oe cls d pn hz hf => ⟨fun pins s σ H D I ⟨e1, e2, h⟩ => by
      subst e1 e2
      exact (pss_one (ps_ret (pe_lst (pa_cons pe_str (pa_cons (pe_callB (call_isE E3.u.ec hz hf) (by rfl) T.isi PyProof.Rows.boot_isinstance (pa_cons (pv 2) (pa_cons (pe_bltn (v := .ty "ValueError") (u := .type "ValueError") (by rfl) T.ve (by decide +kernel) rfl) pa_nil)) (by decide) (by decide)) pa_nil))))).run pins s σ H D I h⟩) .nil))
  rcases i with _ | _ | _ | i
  · refine ⟨_, pss_one (ps_tryN (i := 2) (n := "error") (l := clsHeard K U N W) (Wout := fun _ _ _ _ => False) rfl rfl scLawHeard.nd rfl rfl takes0 (fun W' pn xe tk _ => pss_one (ps_ret (pe_callV (E := WE W') (te := tDoor K f0 f1 f2) F0 (hr.mono (by decide)) hk0 hb0 (fun σ => passAt tk σ)
      (pe_ix (ixLK K) (pe_lst (pa_cons (pe_glob (v := .ref f0) (by rfl) hm0 rfl) (pa_cons (pe_glob (v := .ref f1) (by rfl) hm1 rfl) (pa_cons (pe_glob (v := .ref f2) (by rfl) hm2 rfl) pa_nil)))) (pv 0) (fun _ _ => rfl)) (pa_cons (pv 1) pa_nil)))) cl), ?_⟩
    intro σ A k D q
    by_cases hlg : longB ns = true
    · refine try_exc (c := .ref N) k rfl ⟨ns, hl, asl_ds hx, hlg, rfl⟩ fun B e => ?_
      refine ⟨true, E3.nn, fun _ a _ => heard_list E3.n.ve k e (fun v C e2 h => q v C e2 ?_) a, fun z => nomatch z⟩
      rwa [show heardD 0 ns = heardL "no paper" from if_pos hlg]
    · refine try_val (d := breakD ns) k rfl ⟨ns, hl, asl_ds hx, Bool.eq_false_iff.mpr hlg, rfl⟩ fun v C e2 h => q v C e2 ?_
      rwa [show heardD 0 ns = breakD ns from if_neg hlg]
  · refine ⟨_, pss_one (ps_tryN (i := 2) (n := "error") (l := clsHeard K U N W) (Wout := fun _ _ _ _ => False) rfl rfl scLawHeard.nd rfl rfl takes0 (fun W' pn xe tk _ => pss_one (ps_ret (pe_callV (E := WE W') (te := tDoor K f0 f1 f2) F1 (hr.mono (by decide)) hk1 hb1 (fun σ => passAt tk σ)
      (pe_ix (ixLK K) (pe_lst (pa_cons (pe_glob (v := .ref f0) (by rfl) hm0 rfl) (pa_cons (pe_glob (v := .ref f1) (by rfl) hm1 rfl) (pa_cons (pe_glob (v := .ref f2) (by rfl) hm2 rfl) pa_nil)))) (pv 0) (fun _ _ => rfl)) (pa_cons (pv 1) pa_nil)))) cl), ?_⟩
    intro σ A k D q
    by_cases hmx : (mixedP ns).isNone = true
    · refine try_val (d := ti (Lp (oddB ns))) k rfl ⟨ns, hl, asl_ds hx, Option.isNone_iff_eq_none.mp hmx, rfl⟩ fun v C e2 h => q v C e2 ?_
      rwa [show heardD 1 ns = ti (Lp (oddB ns)) from if_pos hmx]
    · refine try_exc (c := .ref U) k rfl ⟨ns, hl, asl_ds hx, fun z => hmx (by rw [z]; rfl), rfl⟩ fun B e => ?_
      refine ⟨false, E3.un, (fun z => nomatch z), fun _ => ⟨false, E3.uw, (fun z => nomatch z), fun _ => ⟨true, E3.uu, fun _ a _ => heard_list E3.u.ve k e (fun v C e2 h => q v C e2 ?_) a, fun z => nomatch z⟩⟩⟩
      rwa [show heardD 1 ns = heardL "unfit" from if_neg hmx]
  · refine ⟨_, pss_one (ps_tryN (i := 2) (n := "error") (l := clsHeard K U N W) (Wout := fun _ _ _ _ => False) rfl rfl scLawHeard.nd rfl rfl takes0 (fun W' pn xe tk _ => pss_one (ps_ret (pe_callV (E := WE W') (te := tDoor K f0 f1 f2) F2 hr hk2 hb2 (fun σ => passAt tk σ)
      (pe_ix (ixLK K) (pe_lst (pa_cons (pe_glob (v := .ref f0) (by rfl) hm0 rfl) (pa_cons (pe_glob (v := .ref f1) (by rfl) hm1 rfl) (pa_cons (pe_glob (v := .ref f2) (by rfl) hm2 rfl) pa_nil)))) (pv 0) (fun _ _ => rfl)) (pa_cons (pv 1) pa_nil)))) cl), ?_⟩
    intro σ A k D q
    have hlg := h2 rfl
    by_cases hn : noWayB ns = true
    · refine try_exc (c := .ref W) k rfl ⟨ns, hl, hlg, asl_ds hx, hn, rfl⟩ fun B e => ?_
      refine ⟨false, E3.wn, (fun z => nomatch z), fun _ => ⟨true, E3.ww, fun _ a _ => heard_list E3.w.ve k e (fun v C e2 h => q v C e2 ?_) a, fun z => nomatch z⟩⟩
      rwa [show heardD 2 ns = heardL "no way" from if_pos hn]
    · refine try_val (d := ti (hlf ns)) k rfl ⟨ns, hl, hlg, asl_ds hx, Bool.eq_false_iff.mpr hn, rfl⟩ fun v C e2 h => q v C e2 ?_
      rwa [show heardD 2 ns = ti (hlf ns) from if_neg hn]
  · omega
end
end Lo
/-! E6: one row judged, the rows by hand. -/
namespace Lo
open PySem PySem.Spec L2 Evl PyProof.Rows

section
variable {K : PySem.W.Frag} {δ : De} {x y : PyData} {ta : TA} {a c : Nat}
/-- name, name = (value, value) by a tuple -/
theorem s_asg2 (h : EvDA K ta δ [x, y]) : StD K (tAsg (tTup ta) (gTup K 2 (gCons (gName a) (gCons (gName c) gNil)))) δ (.next ((δ.set a (some x)).set c (some y))) := fun σ A k D q =>
  h σ A k _ fun vs B e1 h1 => by
    obtain ⟨v, w, rfl, hv, hw⟩ := h1.two
    refine ⟨by show 2 ≤ sizeLine; decide, fun p hp => ⟨p, [v, w], rfl, SqT.of upd_same, rfl, v, [w], rfl, w, [], rfl, rfl, ?_⟩⟩
    have e2 := B.pr (o := .tup [v, w]) hp
    exact q _ (B.new p _ hp) (e1.trans e2) (((k.ex (e1.trans e2).k).set (hv.ex e2.k)).set (hw.ex e2.k))
end
/-! ### what is asked -/
def pairD (s : Str) (x : PyData) : PyData := .tuple [.str s, x]
def thingsL (ns : List Int) : List PyData := [pairD "mixed" (.int 0), pairD "mixed" (.int 1), pairD "sum" (.int 4), pairD "sum" (.int 2), pairD "lot" (.tuple []), pairD "lot" (oddD ns), breakD ns, .none]
theorem Lp_nil : Lp (fun _ => false) = [] := by decide +kernel
theorem ok_mixed : OkS "mixed" := by decide +kernel
theorem ok_lot : OkS "lot" := by decide +kernel
theorem ok_sum : OkS "sum" := by decide +kernel
theorem shaped_pair {s : Str} {x : PyData} (hs : OkS s) (hx : PyData.canLay0 x = true) (hd : PyData.depth x ≤ 10) : SeqAt.shaped (pairD s x) = true := by
  have h1 : PyData.canLay0 (.str s) = true := (Bool.and_eq_true_iff.mp hs).1
  have e1 : PyData.canLay0 (pairD s x) = true := by
    show (PyData.canLay0 (.str s) && (PyData.canLay0 x && true)) = true
    rw [h1, hx]
    rfl
  have e2 : PyData.depth (pairD s x) ≤ 64 := by
    show PyData.depthAll [.str s, x] + 1 ≤ 64
    rw [PyData.depthAll, PyData.depthAll, PyData.depthAll, show PyData.depth (.str s) = 0 from rfl]
    omega
  unfold SeqAt.shaped
  rw [e1, decide_eq_true e2]
  rfl
theorem can_ti (ns : List Int) : PyData.canLay0 (ti ns) = true := canLay_ints ns
theorem dep_ti (ns : List Int) : PyData.depth (ti ns) ≤ 10 := by
  show PyData.depthAll _ + 1 ≤ 10
  rw [depth_ints]
  decide
/-- what breakD may be -/
theorem break_cases (ns : List Int) : breakD ns = .none ∨ (∃ k : Nat, breakD ns = pairD "mixed" (.int k)) ∨ (mixedP ns = none ∧ breakD ns = pairD "lot" (ti (Lp (oddB ns)))) ∨ breakD ns = pairD "sum" (.int (restI ns)) := by
  unfold breakD
  cases mixedP ns with
  | some k => exact .inr (.inl ⟨k, rfl⟩)
  | none =>
    cases rightB (oddB ns) with
    | false => exact .inr (.inr (.inl ⟨rfl, rfl⟩))
    | true =>
      by_cases h : restI ns = 0
      · exact .inl (by simp [h])
      · exact .inr (.inr (.inr (by simp [h, pairD])))
theorem shaped_break (ns : List Int) : SeqAt.shaped (breakD ns) = true := by
  rcases break_cases ns with h | ⟨k, h⟩ | ⟨_, h⟩ | h <;> rw [h]
  · rfl
  · exact shaped_pair ok_mixed rfl (by show 0 ≤ 10; decide)
  · exact shaped_pair ok_lot (can_ti _) (dep_ti _)
  · exact shaped_pair ok_sum rfl (by show 0 ≤ 10; decide)
theorem odd_cases (ns : List Int) : oddD ns = .none ∨ oddD ns = ti (Lp (oddB ns)) := by
  unfold oddD
  split
  · exact .inr rfl
  · exact .inl rfl
theorem things_ok (ns : List Int) : ∀ x ∈ thingsL ns, Brk x (breakD ns) ∧ SeqAt.shaped x = true := by
  have shint : ∀ (s : Str) (i : Int), OkS s → SeqAt.shaped (pairD s (.int i)) = true := fun s i h => shaped_pair h rfl (by show 0 ≤ 10; decide)
  -- a pair with an int
  have bi : ∀ (s : Str) (i : Int), OkS s → s ≠ "lot" → Brk (pairD s (.int i)) (breakD ns) := fun s i hs hl => by
    rcases break_cases ns with h | ⟨k, h⟩ | ⟨_, h⟩ | h <;> rw [h]
    · exact .inl rfl
    · exact .inr ⟨_, _, ok_mixed, rfl, .inr ⟨_, _, hs, rfl, fun e => .inr ⟨hl, _, _, rfl, rfl⟩⟩⟩
    · exact .inr ⟨_, _, ok_lot, rfl, .inr ⟨_, _, hs, rfl, fun e => absurd e hl⟩⟩
    · exact .inr ⟨_, _, ok_sum, rfl, .inr ⟨_, _, hs, rfl, fun e => .inr ⟨hl, _, _, rfl, rfl⟩⟩⟩
  have nm : ("mixed" : Str) ≠ "lot" := by decide
  have nsu : ("sum" : Str) ≠ "lot" := by decide
  have bl : ∀ x : PyData, (∀ _ : mixedP ns = none, ∃ p, x = ti (Lp p)) → Brk (pairD "lot" x) (breakD ns) := fun x hx => by
    rcases break_cases ns with h | ⟨k, h⟩ | ⟨hm, h⟩ | h <;> rw [h]
    · exact .inl rfl
    · exact .inr ⟨_, _, ok_mixed, rfl, .inr ⟨_, _, ok_lot, rfl, fun e => absurd e.symm nm⟩⟩
    · obtain ⟨p, rfl⟩ := hx hm
      exact .inr ⟨_, _, ok_lot, rfl, .inr ⟨_, _, ok_lot, rfl, fun e => .inl ⟨rfl, p, _, rfl, rfl⟩⟩⟩
    · exact .inr ⟨_, _, ok_sum, rfl, .inr ⟨_, _, ok_lot, rfl, fun e => absurd e.symm nsu⟩⟩
  intro x hx
  simp only [thingsL, List.mem_cons, List.not_mem_nil, or_false] at hx
  rcases hx with rfl | rfl | rfl | rfl | rfl | rfl | rfl | rfl
  · exact ⟨bi _ _ ok_mixed nm, shint _ _ ok_mixed⟩
  · exact ⟨bi _ _ ok_mixed nm, shint _ _ ok_mixed⟩
  · exact ⟨bi _ _ ok_sum nsu, shint _ _ ok_sum⟩
  · exact ⟨bi _ _ ok_sum nsu, shint _ _ ok_sum⟩
  · refine ⟨bl _ fun _ => ⟨fun _ => false, by rw [Lp_nil]; rfl⟩, shaped_pair ok_lot rfl (by decide)⟩
  · refine ⟨bl _ fun hm => ⟨oddB ns, by unfold oddD; rw [hm]; rfl⟩, ?_⟩
    rcases odd_cases ns with h | h <;> rw [h]
    · exact shaped_pair ok_lot rfl (by show 0 ≤ 10; decide)
    · exact shaped_pair ok_lot (can_ti _) (dep_ti _)
  · refine ⟨?_, shaped_break ns⟩
    rcases break_cases ns with h | ⟨k, h⟩ | ⟨hm, h⟩ | h <;> rw [h]
    · exact .inl rfl
    · exact .inr ⟨_, _, ok_mixed, rfl, .inr ⟨_, _, ok_mixed, rfl, fun e => .inr ⟨nm, _, _, rfl, rfl⟩⟩⟩
    · exact .inr ⟨_, _, ok_lot, rfl, .inr ⟨_, _, ok_lot, rfl, fun e => .inl ⟨rfl, _, _, rfl, rfl⟩⟩⟩
    · exact .inr ⟨_, _, ok_sum, rfl, .inr ⟨_, _, ok_sum, rfl, fun e => .inr ⟨nsu, _, _, rfl, rfl⟩⟩⟩
  · refine ⟨?_, rfl⟩
    rcases break_cases ns with h | ⟨k, h⟩ | ⟨hm, h⟩ | h <;> rw [h]
    · exact .inl rfl
    · exact .inr ⟨_, _, ok_mixed, rfl, .inl rfl⟩
    · exact .inr ⟨_, _, ok_lot, rfl, .inl rfl⟩
    · exact .inr ⟨_, _, ok_sum, rfl, .inl rfl⟩
theorem lenLp (p : Nat → Bool) : (Lp p).length ≤ 1000 := Nat.le_trans (len_Lp p) (by decide)
theorem pl_pair {n : Nat} {s : Str} {x : PyData} (hs : OkS s) (hx : Pl n x) : Pl (n + 1) (pairD s x) := .inr ⟨_, .inr rfl, by show (2 : Nat) ≤ 1000; decide, fun y hy => by
  simp only [List.mem_cons, List.not_mem_nil, or_false] at hy
  rcases hy with rfl | rfl
  · exact Pl.str n hs
  · exact hx⟩
theorem pl_break (ns : List Int) : Pl 2 (breakD ns) := by
  rcases break_cases ns with h | ⟨k, h⟩ | ⟨_, h⟩ | h <;> rw [h]
  · exact Pl.none 2
  · exact pl_pair ok_mixed (Pl.int _ _)
  · exact pl_pair ok_lot (Pl.ti (lenLp _))
  · exact pl_pair ok_sum (Pl.int _ _)
theorem pl_heardL {s : Str} (hs : OkS s) : Pl 2 (heardL s) := .inr ⟨_, .inl rfl, by show (2 : Nat) ≤ 1000; decide, fun y hy => by
  simp only [List.mem_cons, List.not_mem_nil, or_false] at hy
  rcases hy with rfl | rfl
  · exact Pl.str 1 hs
  · exact Pl.bool 1 _⟩
theorem pl_heard0 (ns : List Int) : Pl 2 (heardD 0 ns) := by
  show Pl 2 (if longB ns = true then heardL "no paper" else breakD ns)
  split
  · exact pl_heardL (by decide +kernel)
  · exact pl_break ns
theorem pl_heard1 (ns : List Int) : Pl 2 (heardD 1 ns) := by
  show Pl 2 (if (mixedP ns).isNone = true then ti (Lp (oddB ns)) else heardL "unfit")
  split
  · exact Pl.ti (lenLp _)
  · exact pl_heardL (by decide +kernel)
section
variable {P : Program} {w : World} {K : PySem.W.Frag} {mg : Str → Option Value} {base : Heap}
def RRowRight (ds : List PyData) (d : PyData) : Prop := ∃ ns : List Int, ns.length = 24 ∧ ds = [ti ns] ∧ d = .bool true
theorem ok_law_row_right (F : FunM K mg "_law_row_right" sLawRowRight) (T : Blt mg) (G1 : Dfn P w K mg base CX0 4 "_law_break" ["_law_row_so"] (spD K RBreak)) (G2 : Dfn P w K mg base CX0 1 "_law_odd" ["_law_row_so"] (spD K RLawOdd)) (G3 : Dfn P w K mg base CX0 8 "is_long" ["thing"] (spD K RLong))
    (G4 : Dfn P w K mg base CX0 11 "_law_heard" ["_law_door", "_law_row_so"] (spD K RHeard)) (G5 : Dfn P w K mg base CX0 4 "_law_same" ["_law_got", "_law_due"] (spD K (RSame 3))) (G6 : Dfn P w K mg base CX0 8 "is_rule_broken" ["row", "thing"] (spD K RIsRule)) :
    Dfn P w K mg base CX0 12 "_law_row_right" ["_law_row_so"] (spD K RRowRight) := by
  refine dfn_of F scLawRowRight (fun _ _ _ _ _ _ us hl => match us, hl with | [_], _ => rfl) (fun ds d ⟨_, _, h, _⟩ => by rw [h]; rfl) ?_
  rintro f cdv A outer s H E hr ds d ⟨ns, hl, rfl, rfl⟩
  refine ⟨_, pss_cons (ps_asg (pe_tup (pa_cons (pc G1 (hr.mono (by decide)) (pa_cons (pv 0) pa_nil)) (pa_cons (pc G2 (hr.mono (by decide)) (pa_cons (pv 0) pa_nil)) pa_nil))) (pg_tup rfl (pgs_cons (pg_name (i := 1) scLawRowRight.nd rfl (Or.inr rfl)) (pgs_cons (pg_name (i := 2) scLawRowRight.nd rfl (Or.inl rfl)) pgs_nil))))
    (pss_cons (ps_set (i := 3) scLawRowRight.nd rfl (Or.inl rfl) (pe_lst (pa_cons (pc G3 (hr.mono (by decide)) (pa_cons (pv 0) pa_nil)) (pa_cons (pc G3 (hr.mono (by decide)) (pa_cons (pLst T (pv 0)) pa_nil)) (pa_cons (pc G4 hr (pa_cons pe_int (pa_cons (pLst T (pv 0)) pa_nil))) (pa_cons (pc G4 hr (pa_cons pe_int (pa_cons (pv 0) pa_nil))) pa_nil))))))
    (pss_cons (ps_if (pt_not (pt_val (pc G5 (hr.mono (by decide)) (pa_cons (pv 3) (pa_cons (pe_lst (pa_cons (pe_cmpR op_isN (pv 1) pe_non (nomark _)) (pa_cons pe_bl (pa_cons (pe_ifExp (pt_cmpR op_isN (pv 1) pe_non (nomark _)) (pe_lst (pa_cons pe_str (pa_cons pe_bl pa_nil))) (pv 1))
      (pa_cons (pe_ifExp (pt_cmpR op_isN (pv 2) pe_non (nomark _)) (pe_lst (pa_cons pe_str (pa_cons pe_bl pa_nil))) (pv 2)) pa_nil))))) pa_nil))))) (pss_one (ps_ret pe_bl)) pss_nil)
    (pss_cons (ps_set (i := 4) scLawRowRight.nd rfl (Or.inl rfl) (pe_lst (pa_cons (pe_tup (pa_cons pe_str (pa_cons pe_int pa_nil))) (pa_cons (pe_tup (pa_cons pe_str (pa_cons pe_int pa_nil))) (pa_cons (pe_tup (pa_cons pe_str (pa_cons pe_int pa_nil))) (pa_cons (pe_tup (pa_cons pe_str (pa_cons pe_int pa_nil)))
      (pa_cons (pe_tup (pa_cons pe_str (pa_cons (pe_tup pa_nil) pa_nil))) (pa_cons (pe_tup (pa_cons pe_str (pa_cons (pv 2) pa_nil))) (pa_cons (pv 1) (pa_cons pe_non pa_nil))))))))))
    (pss_one (ps_ret (pc G5 (hr.mono (by decide)) (pa_cons (pe_lc (own := [("_law_own", 5)]) (g := gName 5) (tt := tYes) rfl scLawRowRight.nd (pi_list (pv 4)) (blkOk_by (N := nLawRowRight) (sc := defScope sLawRowRight) (by decide +kernel)) (fun _ _ _ _ _ => pg_name (i := 5) scLawRowRight.nd rfl (Or.inl rfl)) (fun _ _ _ _ _ => pts_nil)
        (fun _ _ _ _ _ => pc G6 (hr.mono (by decide)) (pa_cons (pv 0) (pa_cons (pv 5) pa_nil))))
      (pa_cons (pe_lc (own := [("_law_own", 5)]) (g := gName 5) (tt := tYes) rfl scLawRowRight.nd (pi_list (pv 4)) (blkOk_by (N := nLawRowRight) (sc := defScope sLawRowRight) (by decide +kernel)) (fun _ _ _ _ _ => pg_name (i := 5) scLawRowRight.nd rfl (Or.inl rfl)) (fun _ _ _ _ _ => pts_nil)
        (fun _ _ _ _ _ => pe_and (pe_cmpR op_notN (pv 1) pe_non (nomark _)) (pe_one (pe_cmpR (eqK K hr.units) (pv 5) (pv 1) (nomark _))))) pa_nil)))))))), ?_⟩
  refine s_seq (s_asg2 (da_cons (d_call (da_cons (d_var rfl) da_nil) ⟨ns, hl, rfl, rfl⟩) (da_cons (d_call (da_cons (d_var rfl) da_nil) ⟨ns, hl, rfl, rfl⟩) da_nil))) ?_
  have lst : ∀ δ : De, δ[0]? = some (some (ti ns)) → EvD K _ δ (li ns) := fun δ h => d_cb (da_cons (d_var h) da_nil) rc_listT
  refine s_seq (s_set (d := .list [.bool (longB ns), .bool false, heardD 0 ns, heardD 1 ns]) (d_lst (da_cons (d_call (da_cons (d_var rfl) da_nil) ⟨ns, hl, .inl ⟨rfl, rfl⟩⟩) (da_cons (d_call (da_cons (lst _ rfl) da_nil) ⟨ns, hl, .inr ⟨rfl, rfl⟩⟩)
    (da_cons (d_call (da_cons d_int (da_cons (lst _ rfl) da_nil)) ⟨0, ns, _, hl, .inr rfl, by decide, (fun z => nomatch z), rfl, rfl⟩) (da_cons (d_call (da_cons d_int (da_cons (d_var rfl) da_nil)) ⟨1, ns, _, hl, .inl rfl, by decide, (fun z => nomatch z), rfl, rfl⟩) da_nil)))) (by show (4 : Nat) ≤ 100000; decide))) ?_
  refine s_seq (s_ifF (b_not (b := true) (b_B (d_call (da_cons (d_var rfl) (da_cons (d := .list [.bool (longB ns), .bool false, heardD 0 ns, heardD 1 ns]) (d_lst (da_cons (d_op (d_var rfl) d_non rd_isN) (da_cons d_bl (da_cons (d_if (b_test (d_op (d_var rfl) d_non rd_isN)) (fun h => ?_) fun h => ?_)
    (da_cons (d_if (b_test (d_op (d_var rfl) d_non rd_isN)) (fun h => ?_) fun h => ?_) da_nil)))) (by show (4 : Nat) ≤ 100000; decide)) da_nil)) ⟨_, ?_, rfl, rfl⟩))) s_next) ?_
  · rw [show heardD 0 ns = heardL "no paper" from if_pos h]
    exact d_lst (da_cons d_str (da_cons d_bl da_nil)) (by show (2 : Nat) ≤ 100000; decide)
  · rw [show heardD 0 ns = breakD ns from if_neg (fun z => by rw [show longB ns = isN (breakD ns) from rfl, h] at z; cases z)]
    exact d_var rfl
  · have e : ¬ (mixedP ns).isNone = true := fun z => by
      rw [show oddD ns = ti (Lp (oddB ns)) from if_pos z] at h
      cases h
    rw [show heardD 1 ns = heardL "unfit" from if_neg e]
    exact d_lst (da_cons d_str (da_cons d_bl da_nil)) (by show (2 : Nat) ≤ 100000; decide)
  · have e : (mixedP ns).isNone = true := by
      cases hm : (mixedP ns).isNone with
      | true => rfl
      | false =>
        rw [show oddD ns = .none from if_neg (by rw [hm]; decide)] at h
        cases h
    rw [show heardD 1 ns = ti (Lp (oddB ns)) from if_pos e]
    exact EvD.to (d_var rfl) (show oddD ns = _ from if_pos e)
  · refine .inr ⟨_, .inl rfl, by show (4 : Nat) ≤ 1000; decide, fun y hy => ?_⟩
    simp only [List.mem_cons, List.not_mem_nil, or_false] at hy
    rcases hy with rfl | rfl | rfl | rfl
    · exact Pl.bool 2 _
    · exact Pl.bool 2 _
    · exact pl_heard0 ns
    · exact pl_heard1 ns
  have two : ∀ a b : PyData, [a, b].length ≤ 100000 := fun a b => by show (2 : Nat) ≤ 100000; decide
  refine s_seq (s_set (d := .list (thingsL ns)) (d_lst (da_cons (d_tup (da_cons d_str (da_cons d_int da_nil)) (two _ _)) (da_cons (d_tup (da_cons d_str (da_cons d_int da_nil)) (two _ _)) (da_cons (d_tup (da_cons d_str (da_cons d_int da_nil)) (two _ _)) (da_cons (d_tup (da_cons d_str (da_cons d_int da_nil)) (two _ _))
    (da_cons (d_tup (da_cons d_str (da_cons (d_tup da_nil (by show (0 : Nat) ≤ 100000; decide)) da_nil)) (two _ _)) (da_cons (d_tup (da_cons d_str (da_cons (d_var rfl) da_nil)) (two _ _)) (da_cons (d_var rfl) (da_cons d_non da_nil)))))))) (by show (8 : Nat) ≤ 100000; decide))) ?_
  have hth : ∀ i, i < (thingsL ns).length → Brk ((thingsL ns).getD i .none) (breakD ns) ∧ SeqAt.shaped ((thingsL ns).getD i .none) = true := fun i hi => things_ok ns _ (by
    rw [List.getD_eq_getElem?_getD, List.getElem?_eq_getElem hi]
    exact List.getElem_mem hi)
  refine s_ret (d_call (da_cons (d_lc (f := fun _ => true) (val := fun i => .bool (isBr ((thingsL ns).getD i .none) (breakD ns))) (w_list (d_var rfl)) (by show (8 : Nat) ≤ 50000; decide) own1 (fun i hi => b_yes) (fun i hi _ => d_call (da_cons (d_var rfl) (da_cons (d_var rfl) da_nil)) ⟨ns, _, hl, (hth i hi).1, rfl, rfl⟩))
    (da_cons (d_lc (f := fun _ => true) (val := fun i => .bool (isBr ((thingsL ns).getD i .none) (breakD ns))) (w_list (d_var rfl)) (by show (8 : Nat) ≤ 50000; decide) own1 (fun i hi => b_yes) (fun i hi _ => d_andV (d_op (d_var rfl) d_non rd_notN) fun _ => d_op (d_var rfl) (d_var rfl) (rd_eq (hth i hi).2 (shaped_break ns)))) da_nil)) ⟨_, ?_, rfl, rfl⟩)
  refine .inr ⟨_, .inl rfl, Nat.le_trans (givenD_len _ _ _) (by show (8 : Nat) ≤ 1000; decide), fun y hy => ?_⟩
  unfold givenD at hy
  obtain ⟨i, _, rfl⟩ := List.mem_map.mp hy
  exact Pl.bool 2 _
end
end Lo
/-! E7: the rows by hand. -/
namespace Lo
open PySem PySem.Spec L2 Evl PyProof.Rows

def rep (n : Nat) (i : Int) : List Int := List.replicate n i
def handL : List (List Int) := [rep 24 1, rep 4 2 ++ rep 20 0, [2, 1] ++ rep 22 0, rep 23 0 ++ [1], [4, 4] ++ rep 22 0, [-3] ++ rep 23 1, rep 24 3, [4] ++ rep 23 0, rep 23 (-1) ++ [3]]
def handDue : List PyData := [pairD "sum" (.int 4), pairD "lot" (ti [0, 1, 2, 3]), pairD "mixed" (.int 1), pairD "mixed" (.int 23), .none, .none, pairD "sum" (.int 4), pairD "sum" (.int 4), .none]
theorem hand_len : ∀ r ∈ handL, r.length = 24 := by decide +kernel
theorem hand_eq : PyData.eqv (.list (handL.map breakD)) (.list handDue) = true := by decide +kernel
theorem hand_sh1 : SeqAt.shaped (.list (handL.map breakD)) = true := by decide +kernel
theorem hand_sh2 : SeqAt.shaped (.list handDue) = true := by decide +kernel
theorem flat_rep (n : Nat) (i : Int) : (List.replicate n [PyData.int i]).flatten = (rep n i).map PyData.int := by
  unfold rep
  induction n with
  | zero => rfl
  | succ n ih => rw [List.replicate_succ, List.flatten_cons, ih] <;> rfl
section
variable {P : Program} {w : World} {K : PySem.W.Frag} {mg : Str → Option Value} {base : Heap} {δ : De}
theorem d_rep {n : Nat} {i : Int} {te : TE} (h : EvD K te δ (.int i)) (h2 : 2 ≤ n) (hn : n ≤ 1000) : EvD K (tOp (rRepT K) (tTup (tCons te tNil)) (tC (.int (n : Int)))) δ (ti (rep n i)) :=
  EvD.to (d_op (d_tup (da_cons h da_nil) (by show (1 : Nat) ≤ 100000; decide)) d_int (rd_repT hn h2 (by show (1 : Nat) ≤ 100; decide) (by simp))) (congrArg PyData.tuple (flat_rep n i))
theorem d_catI {ta tb : TE} {ns ms : List Int} (h1 : EvD K ta δ (ti ns)) (h2 : EvD K tb δ (ti ms)) (hl : ns.length + ms.length ≤ 100) : EvD K (tOp (rCatA K) ta tb) δ (ti (ns ++ ms)) :=
  EvD.to (d_op h1 h2 (rd_catT (by rw [List.length_map, List.length_map]; omega))) (congrArg PyData.tuple List.map_append.symm)
theorem ok_law_by_hand_right (F : FunM K mg "_law_by_hand_right" sLawByHandRight) (T : Blt mg) (G1 : Dfn P w K mg base CX0 4 "_law_break" ["_law_row_so"] (spD K RBreak)) (G2 : Dfn P w K mg base CX0 12 "_law_row_right" ["_law_row_so"] (spD K RRowRight)) :
    Dfn P w K mg base CX0 13 "_law_by_hand_right" [] (spD K fun ds d => ds = [] ∧ d = .bool true) := by
  refine dfn_of F scLawByHandRight (fun _ _ _ _ _ _ us hl => match us, hl with | [], _ => rfl) (fun ds d ⟨h, _⟩ => by rw [h]; rfl) ?_
  rintro f cdv A outer s H E hr ds d ⟨rfl, rfl⟩
  refine ⟨_, pss_cons (ps_set (i := 0) scLawByHandRight.nd rfl (Or.inl rfl) (pe_lst (pa_cons (pe_op op_repT (pe_tup (pa_cons pe_int pa_nil)) pe_int) (pa_cons (pe_op op_catA (pe_op op_repT (pe_tup (pa_cons pe_int pa_nil)) pe_int) (pe_op op_repT (pe_tup (pa_cons pe_int pa_nil)) pe_int))
      (pa_cons (pe_op op_catA (pe_tup (pa_cons pe_int (pa_cons pe_int pa_nil))) (pe_op op_repT (pe_tup (pa_cons pe_int pa_nil)) pe_int)) (pa_cons (pe_op op_catA (pe_op op_repT (pe_tup (pa_cons pe_int pa_nil)) pe_int) (pe_tup (pa_cons pe_int pa_nil)))
      (pa_cons (pe_op op_catA (pe_tup (pa_cons pe_int (pa_cons pe_int pa_nil))) (pe_op op_repT (pe_tup (pa_cons pe_int pa_nil)) pe_int)) (pa_cons (pe_op op_catA (pe_tup (pa_cons (pe_un un_neg pe_int) pa_nil)) (pe_op op_repT (pe_tup (pa_cons pe_int pa_nil)) pe_int)) pa_nil))))))))
    (pss_cons (ps_set (i := 0) scLawByHandRight.nd rfl (Or.inl rfl) (pe_op op_cat (pv 0) (pe_lst (pa_cons (pe_op op_repT (pe_tup (pa_cons pe_int pa_nil)) pe_int) (pa_cons (pe_op op_catA (pe_tup (pa_cons pe_int pa_nil)) (pe_op op_repT (pe_tup (pa_cons pe_int pa_nil)) pe_int))
      (pa_cons (pe_op op_catA (pe_op op_repT (pe_tup (pa_cons (pe_un un_neg pe_int) pa_nil)) pe_int) (pe_tup (pa_cons pe_int pa_nil))) pa_nil))))))
    (pss_cons (ps_set (i := 1) scLawByHandRight.nd rfl (Or.inl rfl) (pe_lst (pa_cons (pe_tup (pa_cons pe_str (pa_cons pe_int pa_nil))) (pa_cons (pe_tup (pa_cons pe_str (pa_cons (pe_tup (pa_cons pe_int (pa_cons pe_int (pa_cons pe_int (pa_cons pe_int pa_nil))))) pa_nil)))
      (pa_cons (pe_tup (pa_cons pe_str (pa_cons pe_int pa_nil))) (pa_cons (pe_tup (pa_cons pe_str (pa_cons pe_int pa_nil))) (pa_cons pe_non (pa_cons pe_non (pa_cons (pe_tup (pa_cons pe_str (pa_cons pe_int pa_nil))) (pa_cons (pe_tup (pa_cons pe_str (pa_cons pe_int pa_nil))) (pa_cons pe_non pa_nil)))))))))))
    (pss_one (ps_ret (pe_and (pe_cmpR (op_eqD hr.units) (pe_lc (own := [("_law_own", 2)]) (g := gName 2) (tt := tYes) rfl scLawByHandRight.nd (pi_list (pv 0)) (blkOk_by (N := nLawByHandRight) (sc := defScope sLawByHandRight) (by decide +kernel)) (fun _ _ _ _ _ => pg_name (i := 2) scLawByHandRight.nd rfl (Or.inl rfl)) (fun _ _ _ _ _ => pts_nil)
        (fun _ _ _ _ _ => pc G1 (hr.mono (by decide)) (pa_cons (pv 2) pa_nil))) (pv 1) (nomark _))
      (pe_one (pAll T rfl (pe_lc (own := [("_law_own", 2)]) (g := gName 2) (tt := tYes) rfl scLawByHandRight.nd (pi_list (pv 0)) (blkOk_by (N := nLawByHandRight) (sc := defScope sLawByHandRight) (by decide +kernel)) (fun _ _ _ _ _ => pg_name (i := 2) scLawByHandRight.nd rfl (Or.inl rfl)) (fun _ _ _ _ _ => pts_nil)
        (fun _ _ _ _ _ => pc G2 hr (pa_cons (pv 2) pa_nil)))))))))), ?_⟩
  have one : ∀ {δ : De} {te : TE} {i : Int}, EvD K te δ (.int i) → EvD K (tTup (tCons te tNil)) δ (ti [i]) := fun h => d_tup (da_cons h da_nil) (by show (1 : Nat) ≤ 100000; decide)
  have two : ∀ {δ : De} {i j : Int}, EvD K (tTup (tCons (tC (.int i)) (tCons (tC (.int j)) tNil))) δ (ti [i, j]) := d_tup (da_cons d_int (da_cons d_int da_nil)) (by show (2 : Nat) ≤ 100000; decide)
  have pr : ∀ a b : PyData, [a, b].length ≤ 100000 := fun a b => by show (2 : Nat) ≤ 100000; decide
  have pi : ∀ {δ : De} {s : Str} {i : Int}, EvD K (tTup (tCons (tC (.str s)) (tCons (tC (.int i)) tNil))) δ (pairD s (.int i)) := d_tup (da_cons d_str (da_cons d_int da_nil)) (pr _ _)
  have r24 : ∀ {δ : De} {i : Int}, EvD K (tOp (rRepT K) (tTup (tCons (tC (.int i)) tNil)) (tC (.int 24))) δ (ti (rep 24 i)) := d_rep (n := 24) d_int (by decide) (by decide)
  have r23 : ∀ {δ : De} {i : Int}, EvD K (tOp (rRepT K) (tTup (tCons (tC (.int i)) tNil)) (tC (.int 23))) δ (ti (rep 23 i)) := d_rep (n := 23) d_int (by decide) (by decide)
  have r22 : ∀ {δ : De} {i : Int}, EvD K (tOp (rRepT K) (tTup (tCons (tC (.int i)) tNil)) (tC (.int 22))) δ (ti (rep 22 i)) := d_rep (n := 22) d_int (by decide) (by decide)
  have r20 : ∀ {δ : De} {i : Int}, EvD K (tOp (rRepT K) (tTup (tCons (tC (.int i)) tNil)) (tC (.int 20))) δ (ti (rep 20 i)) := d_rep (n := 20) d_int (by decide) (by decide)
  have r4 : ∀ {δ : De} {i : Int}, EvD K (tOp (rRepT K) (tTup (tCons (tC (.int i)) tNil)) (tC (.int 4))) δ (ti (rep 4 i)) := d_rep (n := 4) d_int (by decide) (by decide)
  refine s_seq (s_set (d := .list ((handL.take 6).map ti)) (d_lst (da_cons r24 (da_cons (d_catI r4 r20 (by decide)) (da_cons (d_catI two r22 (by decide)) (da_cons (d_catI r23 (one d_int) (by decide)) (da_cons (d_catI two r22 (by decide)) (da_cons (d_catI (one (d_un d_int r1_neg)) r23 (by decide)) da_nil)))))) (by show (6 : Nat) ≤ 100000; decide))) ?_
  refine s_seq (s_set (d := .list (handL.map ti)) (EvD.to (d_op (d_var rfl) (d_lst (da_cons r24 (da_cons (d_catI (one d_int) r23 (by decide)) (da_cons (d_catI (d_rep (n := 23) (d_un d_int r1_neg) (by decide) (by decide)) (one d_int) (by decide)) da_nil))) (by show (3 : Nat) ≤ 100000; decide)) (rd_catL (by show (6 + 3 : Nat) ≤ 100000; decide))) rfl)) ?_
  refine s_seq (s_set (d := .list handDue) (d_lst (da_cons pi (da_cons (d_tup (da_cons d_str (da_cons (d_tup (da_cons d_int (da_cons d_int (da_cons d_int (da_cons d_int da_nil)))) (by show (4 : Nat) ≤ 100000; decide)) da_nil)) (pr _ _)) (da_cons pi (da_cons pi (da_cons d_non (da_cons d_non (da_cons pi (da_cons pi (da_cons d_non da_nil))))))))) (by show (9 : Nat) ≤ 100000; decide))) ?_
  have src := w_list (K := K) (n := 2) (δ := [some (.list (handL.map ti)), some (.list handDue), none]) (d_var (i := 0) rfl)
  have rowAt : ∀ i, i < handL.length → (handL.map ti).getD i .none = ti (handL.getD i []) ∧ (handL.getD i []).length = 24 := fun i hi => by
    rw [List.getD_eq_getElem?_getD, List.getElem?_map, List.getD_eq_getElem?_getD, List.getElem?_eq_getElem hi]
    exact ⟨rfl, hand_len _ (List.getElem_mem hi)⟩
  refine s_ret (EvD.to (d_andV (b := true) (c := (List.range handL.length).all fun _ => true) (EvD.to (d_op (EvD.to (z := .list (handL.map breakD)) (d_lc (f := fun _ => true) (val := fun i => breakD (handL.getD i [])) src (by show (9 : Nat) ≤ 50000; decide) own1 (fun i hi => b_yes) (fun i hi _ => ?_)) rfl) (d_var rfl) (rd_eq hand_sh1 hand_sh2)) (congrArg PyData.bool hand_eq))
    fun _ => d_all (n := handL.length) (f := fun _ => true) (d_lc src (by show (9 : Nat) ≤ 50000; decide) own1 (fun i hi => b_yes) (fun i hi _ => ?_))) rfl)
  · obtain ⟨e1, e2⟩ := rowAt i hi
    rw [e1]
    exact d_call (da_cons (d_var rfl) da_nil) ⟨_, e2, rfl, rfl⟩
  · obtain ⟨e1, e2⟩ := rowAt i hi
    rw [e1]
    exact d_call (da_cons (d_var rfl) da_nil) ⟨_, e2, rfl, rfl⟩
end
end Lo
/-! A9: a comprehension's list of one's own, append. -/
namespace Lo
open PySem PySem.Spec L2 Evl PyProof.Rows

section
variable {K : PySem.W.Frag} {A A0 B C : Hd} {σ σ' : L2.St} {δ δ' : De} {i : Nat} {p : Addr} {xs ys : List V} {d : PyData} {ds : List PyData} {ta tb te : TE} {tt : TT}
/-- the list of a comprehension, not yet known: it may change -/
theorem lc_own {wi : TI} {g : TG} {vs : List Nat} {n : Nat} {ε : Nat → List (Nat × PyData)} {f : Nat → Bool} {val : Nat → PyData} {Q : VK} (hs : SrcD K wi g δ n ε) (hn : n ≤ 50000) (hv : ∀ i, ∀ p ∈ ε i, p.1 ∈ vs)
    (ht : ∀ i, i < n → EvB K tt (sets (wipeD δ vs) (ε i)) (f i)) (he : ∀ i, i < n → f i = true → EvD K te (sets (wipeD δ vs) (ε i)) (val i)) (k : KnS K σ A.k δ)
    (q : ∀ (C : Hd) (Dl : Addr) (xs : List V), Pr A C → A.h Dl = none → C.k Dl = none → C.h Dl = some (.lst xs) → DaAll K C.k xs (givenD n f val) → Q (.ref Dl) C.h) : tLc wi g tt te vs σ A.h Q :=
  hs σ A k _ fun J B e1 hgo hstop hyld Dl hD => by
    have hDk : B.k Dl = none := B.kn hD
    refine ⟨fun i m H' => m = n - i ∧ i ≤ n ∧ ∃ (C : Hd) (xs : List V), C.h = H' ∧ Ex B.k C.k ∧ Ex B.h C.h ∧ (∀ p, B.k p = none → B.h p ≠ none → C.k p = none) ∧ C.k Dl = none ∧ C.h Dl = some (.lst xs) ∧ DaAll K C.k xs (givenD i f val),
      ⟨n, by simp, Nat.zero_le _, B.mut Dl _ hDk, [], rfl, Ex.refl _, Ex.new hD, fun _ h _ => h, hDk, upd_same, .nil⟩, ?_⟩
    rintro i m H' ⟨rfl, hi, C, xs, rfl, x1, x2, x3, hD0, hL, hA⟩
    by_cases hlt : i < n
    · refine .inr ⟨hgo i C hlt x1, fun H2 => i + 1 ≤ n ∧ ∃ (C : Hd) (xs : List V), C.h = H2 ∧ Ex B.k C.k ∧ Ex B.h C.h ∧ (∀ p, B.k p = none → B.h p ≠ none → C.k p = none) ∧ C.k Dl = none ∧ C.h Dl = some (.lst xs) ∧ DaAll K C.k xs (givenD (i + 1) f val),
        fun H2 p => ⟨n - (i + 1), by omega, rfl, p⟩, fun x H'' y => ?_⟩
      obtain ⟨C2, rfl, c2, tg⟩ := hyld i C x H'' hlt x1 y
      have some_ne : C.h Dl ≠ none := fun z => by rw [hL] at z; cases z
      refine tg (wipe σ vs) (wipeD δ vs) ((k.ex (e1.k.trans x1)).wipe vs) _ fun σ2 k2 hw => ⟨(hw vs (hv i)).trans (wipe_wipe σ vs), ?_⟩
      refine ht i hlt σ2 C2 k2 _ fun C3 c3 => ?_
      have out : ∀ {C' : Hd}, Pr C C' → Ex B.k C'.k ∧ Ex B.h C'.h ∧ (∀ p, B.k p = none → B.h p ≠ none → C'.k p = none) ∧ C'.k Dl = none ∧ C'.h Dl = some (.lst xs) ∧ DaAll K C'.k xs (givenD i f val) := fun {C'} c =>
        ⟨x1.trans c.k, x2.trans c.h, fun p h1 h2 => c.fr p (x3 p h1 h2) (there_ne x2 h2), c.fr Dl hD0 some_ne, c.h _ _ hL, hA.ex c.k⟩
      cases hf : f i with
      | true =>
        show te σ2 C3.h fun y H4 => ∃ acc, H4 Dl = some (.lst acc) ∧ acc.length < sizeLine ∧ _
        refine he i hlt hf σ2 C3 (k2.ex c3.k) _ fun v C4 c4 h4 => ?_
        obtain ⟨y1, y2, y3, y4, y5, y6⟩ := out ((c2.trans c3).trans c4)
        have hlen := givenD_len i f val
        refine ⟨xs, y5, sz_lt (by rw [y6.len]; omega), by omega, C4.mut Dl _ y4, xs ++ [v], rfl, y1, ?_, y3, y4, upd_same, ?_⟩
        · exact Ex.mut y2 hD
        · rw [givenD_yes hf]
          exact y6.app (.cons h4 .nil)
      | false =>
        show i + 1 ≤ n ∧ _
        obtain ⟨y1, y2, y3, y4, y5, y6⟩ := out (c2.trans c3)
        refine ⟨by omega, C3, xs, rfl, y1, y2, y3, y4, y5, ?_⟩
        rw [givenD_no hf]
        exact y6
    · have e : i = n := by omega
      subst e
      refine .inl ⟨hstop C x1, ?_⟩
      exact q C Dl xs ⟨e1.k.trans x1, e1.h.trans x2, fun p h1 h2 => x3 p (e1.fr p h1 h2) (there_ne e1.h h2)⟩ (fresh_back e1.h hD) hD0 hL hA
theorem seq_i {t u : TS} {D : Ends} {H : Hp} (h : t { D with nx := u D } σ H) : tSeq t u D σ H := h
theorem asg_i {g : TG} {D : Ends} {H : Hp} (h : te σ H fun x H1 => g x σ H1 D.nx) : tAsg te g D σ H := h
theorem Ow.put (o : Ow K A0 σ B δ i p xs) {n : Nat} {v : V} (hv : Da K B.k v d) (hn : n ≠ i) : Ow K A0 (σ.set n (some v)) B (δ.set n (some d)) i p xs :=
  o.slots (o.kn.set hv) (List.getElem?_set_ne hn)
/-- name = value -/
theorem ow_set {n : Nat} {D : Ends} (o : Ow K A0 σ B δ i p xs) (h : EvD K te δ d) (hn : n ≠ i) (q : ∀ σ' C, Ow K A0 σ' C (δ.set n (some d)) i p xs → Pr B C → D.nx σ' C.h) : tAsg te (gName n) D σ B.h :=
  h σ B o.kn _ fun v C e hv => q _ C ((o.step e).put hv hn) e
/-- name, name = value, value -/
theorem ow_par {a c : Nat} {ta : TA} {x y : PyData} {D : Ends} (o : Ow K A0 σ B δ i p xs) (h : EvDA K ta δ [x, y]) (ha : a ≠ i) (hc : c ≠ i) (q : ∀ σ' C, Ow K A0 σ' C ((δ.set a (some x)).set c (some y)) i p xs → Pr B C → D.nx σ' C.h) : tPar a c ta D σ B.h :=
  h σ B o.kn _ fun vs C e hv => by
    obtain ⟨v, w, rfl, h1, h2⟩ := hv.two
    exact ⟨v, w, rfl, q _ C (((o.step e).put h1 ha).put h2 hc) e⟩
/-- list.append(value) -/
theorem ow_app {D : Ends} (o : Ow K A0 σ B δ i p xs) (h : EvD K te δ d) (hl : xs.length < 100000) (q : ∀ C v, Ow K A0 σ C δ i p (xs ++ [v]) → Ex B.k C.k → Da K C.k v d → D.nx σ C.h) : tDrop (tBM K "list" rAppend (tVar i) (tCons te tNil)) D σ B.h := by
  refine ⟨_, o.sl, .inl ⟨rfl, _, SqL.of o.st⟩, ?_⟩
  refine h σ B o.kn _ fun v C e hv => ?_
  have o2 := o.step e
  exact ⟨p, xs, v, rfl, rfl, o2.st, sz_lt hl, q _ v (o2.mut _) e.k hv⟩
end
end Lo
/-! E8: the board: base, tally, rights. -/
namespace Lo
open PySem PySem.Spec L2 Evl PyProof.Rows

def lotPart (c : Nat) (s : Int) : List Int := if decide (s > 0) = true then [4 * (c : Int), 4 * (c : Int) + s] else []
def lotUpTo (W : List Int) (i : Nat) : List Int := ((List.range i).map fun c => lotPart c (W.getD c 0)).flatten
def rows6 : List (List Int) := [[1, 0, 0], [2, 0, 0], [0, 1, 0], [0, 2, 0], [0, 0, 1], [0, 0, 2]]
def rowLot (r : List Int) : List Int := lotUpTo (wordP (r.getD 0 0) (r.getD 1 0) (r.getD 2 0)) 6
def base1 : List (List Int) := (List.range 5).map fun i : Nat => [0, 1, 2, 3] ++ (List.range 4).map fun j : Nat => 4 * (1 + (i : Int)) + (j : Int)
def baseL : List (List Int) := base1 ++ rows6.map rowLot ++ [[1, 2, 3, 4, 8, 12, 16, 20]]
theorem rows6_ok : ∀ r ∈ rows6, r.length = 3 ∧ ∀ x ∈ r, Sg x := by decide +kernel
theorem lotUp_succ (W : List Int) (i : Nat) : lotUpTo W (i + 1) = lotUpTo W i ++ lotPart i (W.getD i 0) := by
  unfold lotUpTo
  rw [List.range_succ, List.map_append, List.flatten_append, List.map_cons, List.map_nil, List.flatten_cons, List.flatten_nil, List.append_nil]
theorem lotUp_len (W : List Int) : ∀ i, (lotUpTo W i).length ≤ 2 * i
  | 0 => Nat.le_refl _
  | i + 1 => by
    rw [lotUp_succ, List.length_append]
    have h1 := lotUp_len W i
    have h2 : (lotPart i (W.getD i 0)).length ≤ 2 := by
      unfold lotPart
      split
      · exact Nat.le_refl 2
      · exact Nat.zero_le 2
    omega
section
variable {P : Program} {w : World} {K : PySem.W.Frag} {mg : Str → Option Value} {base : Heap}
def scBase1 : Scope := match defBody sLawBase with
  | .Assign _ (.ListComp _ _ sc _) _ :: _ => sc
  | _ => defScope sLawBase
def RBase (ds : List PyData) (d : PyData) : Prop := ds = [] ∧ d = .list (baseL.map ti)
theorem given_base : givenD 5 (fun _ => true) (fun i : Nat => ti ([0, 1, 2, 3] ++ (List.range 4).map fun j : Nat => 4 * (1 + (i : Int)) + (j : Int))) = base1.map ti := by
  rw [given_all]
  unfold base1
  rw [List.map_map]
  rfl
theorem ok_law_base (F : FunM K mg "_law_base" sLawBase) (T : Blt mg) (G : Dfn P w K mg base CX0 2 "_law_word_by" ["_law_one_so", "_law_two_so", "_law_three_so"] (spD K RBegunWord)) : Dfn P w K mg base CX0 3 "_law_base" [] (spD K RBase) := by
  refine dfn_of F scLawBase (fun _ _ _ _ _ _ us hl => match us, hl with | [], _ => rfl) (fun ds d ⟨h, _⟩ => by rw [h]; rfl) ?_
  rintro f cdv A outer s H E hr ds d ⟨rfl, rfl⟩
  refine ⟨_, pss_cons (ps_setLc (i := 0) (own := [("_law_k", 6)]) (g := gName 6) (tt := tYes) rfl scLawBase.nd rfl rfl (sw_true rfl rfl rfl (by decide +kernel)) (pi_range2 rfl T.range (pa_cons pe_int (pa_cons pe_int pa_nil))) (blkOk_by (N := nLawBase) (sc := defScope sLawBase) (by decide +kernel))
      (fun _ _ _ _ _ => pg_name (i := 6) scLawBase.nd rfl (Or.inr rfl)) (fun _ _ _ _ _ => pts_nil)
      (fun _ _ _ _ _ => pe_op (catAK K) (pe_tup (pa_cons pe_int (pa_cons pe_int (pa_cons pe_int (pa_cons pe_int pa_nil))))) (tupK K T (pe_lc (own := [("_law_own", 7)]) (g := gName 7) (tt := tYes) rfl scLawBase.nd (pi_range1 rfl T.range (pa_cons pe_int pa_nil)) (blkOk_by (N := nLawBase) (sc := scBase1) (by decide +kernel))
        (fun _ _ _ _ _ => pg_name (i := 7) scLawBase.nd rfl (Or.inl rfl)) (fun _ _ _ _ _ => pts_nil) (fun _ _ _ _ _ => pe_op op_add (pe_op op_mul pe_int (pv 6)) (pv 7))))))
    (pss_cons (ps_for PassesOwn.never rfl (pi_tup (pe_tup (pa_cons (pe_tup (pa_cons pe_int (pa_cons pe_int (pa_cons pe_int pa_nil)))) (pa_cons (pe_tup (pa_cons pe_int (pa_cons pe_int (pa_cons pe_int pa_nil)))) (pa_cons (pe_tup (pa_cons pe_int (pa_cons pe_int (pa_cons pe_int pa_nil))))
        (pa_cons (pe_tup (pa_cons pe_int (pa_cons pe_int (pa_cons pe_int pa_nil)))) (pa_cons (pe_tup (pa_cons pe_int (pa_cons pe_int (pa_cons pe_int pa_nil)))) (pa_cons (pe_tup (pa_cons pe_int (pa_cons pe_int (pa_cons pe_int pa_nil)))) pa_nil)))))))) (pg_name (i := 1) scLawBase.nd rfl (Or.inl rfl))
      (pss_cons (ps_par (i := 2) (j := 3) rfl scLawBase.nd rfl rfl (by decide) rfl rfl (pa_cons (pc G hr (pa_cons (pe_ix ix_tup (pv 1) pe_int (fun _ _ => rfl)) (pa_cons (pe_ix ix_tup (pv 1) pe_int (fun _ _ => rfl)) (pa_cons (pe_ix ix_tup (pv 1) pe_int (fun _ _ => rfl)) pa_nil)))) (pa_cons (pe_tup pa_nil) pa_nil)) (by rfl))
      (pss_cons (ps_for PassesOwn.never rfl (pi_enumT (by rfl) T.enum (pa_cons (pv 2) pa_nil)) (pg_tup rfl (pgs_cons (pg_name (i := 4) scLawBase.nd rfl (Or.inl rfl)) (pgs_cons (pg_name (i := 5) scLawBase.nd rfl (Or.inl rfl)) pgs_nil)))
        (pss_one (ps_set (i := 3) scLawBase.nd rfl (Or.inl rfl) (pe_op op_catA (pv 3) (pe_ifExp (pt_cmpR op_gt (pv 5) pe_int (nomark _)) (pe_tup (pa_cons (pe_op op_mul pe_int (pv 4)) (pa_cons (pe_op op_add (pe_op op_mul pe_int (pv 4)) (pv 5)) pa_nil))) (pe_tup pa_nil))))))
      (pss_one (ps_expr (pe_bm PySem.F.plainAttrs_list PySem.F.slot_list_append PySem.F.type_list_append mt_append (pv 0) (pa_cons (pv 3) pa_nil)))))))
    (pss_one (ps_ret (pe_op op_cat (pv 0) (pe_lst (pa_cons (pe_tup (pa_cons pe_int (pa_cons pe_int (pa_cons pe_int (pa_cons pe_int (pa_cons pe_int (pa_cons pe_int (pa_cons pe_int (pa_cons pe_int pa_nil))))))))) pa_nil)))))), ?_⟩
  intro σ A0 kn D q
  have hσ : σ.length = 8 := kn.1
  have k4 : ∀ δ : De, EvD K (tTup (tCons (tC (.int 0)) (tCons (tC (.int 1)) (tCons (tC (.int 2)) (tCons (tC (.int 3)) tNil))))) δ (ti [0, 1, 2, 3]) := fun δ => d_tup (da_cons d_int (da_cons d_int (da_cons d_int (da_cons d_int da_nil)))) (by show (4 : Nat) ≤ 100000; decide)
  refine seq_i (asg_i (lc_own (f := fun _ => true) (val := fun i : Nat => ti ([0, 1, 2, 3] ++ (List.range 4).map fun j : Nat => 4 * (1 + (i : Int)) + (j : Int))) (w_rng2 (n := 6) (lo := 1) (hi := 6) (da_cons d_int (da_cons d_int da_nil)) (by decide) (by decide) (by decide)) (by decide) own1 (fun i hi => b_yes)
    (fun i hi _ => d_catI (k4 _) (d_cb (da_cons (EvD.to (z := li ((List.range 4).map fun j : Nat => 4 * (1 + (i : Int)) + (j : Int))) (d_lc (f := fun _ => true) (val := fun j : Nat => .int (4 * (1 + (i : Int)) + (j : Int))) (w_rng1 (n := 7) (m := 4) (da_cons d_int da_nil) (by decide)) (by decide) own1 (fun j hj => b_yes)
      (fun j hj _ => d_op (d_op d_int (d_var (i := 6) rfl) (rd_intC (C := CMul) (f := fun i j => i * j) (.inl ⟨by decide, by decide⟩))) (d_var (i := 7) rfl) rd_int)) (congrArg PyData.list (by rw [given_all, List.map_map]; rfl))) da_nil) rc_tupK) (by simp)) kn ?_))
  intro C p xs e1 hp ck ch hA
  have o : Ow K A0 (σ.set 0 (some (.ref p))) C [none, none, none, none, none, none, none, none] 0 p xs := ⟨(kn.ex e1.k).setAny, by rw [List.getElem?_set, if_pos rfl, if_pos (by omega)], ck, ch, e1, hp⟩
  have hA0 : DaAll K C.k xs (base1.map ti) := given_base ▸ hA
  have r3 : ∀ {δ : De} {a b c : Int}, EvD K (tTup (tCons (tC (.int a)) (tCons (tC (.int b)) (tCons (tC (.int c)) tNil)))) δ (ti [a, b, c]) := d_tup (da_cons d_int (da_cons d_int (da_cons d_int da_nil))) (by show (3 : Nat) ≤ 100000; decide)
  have src : EvD K _ [none, none, none, none, none, none, none, none] (.tuple (rows6.map ti)) := d_tup (da_cons r3 (da_cons r3 (da_cons r3 (da_cons r3 (da_cons r3 (da_cons r3 da_nil)))))) (by show (6 : Nat) ≤ 100000; decide)
  refine seq_i (raw_for (K := K) (w_tup (n := 1) src) o.kn (fun B i σ' C' => ∃ xs', Ow K A0 σ' C' [none, none, none, none, none, none, none, none] 0 p xs' ∧ Ex B.k C'.k ∧ DaAll K C'.k xs' ((base1 ++ (rows6.take i).map rowLot).map ti))
    (fun B e => ⟨xs, o.step e, Ex.refl _, by
      rw [List.take_zero, List.map_nil, List.append_nil]
      exact hA0.ex e.k⟩) (fun B i σ' C' _ ⟨_, _, h, _⟩ => h) ?_ ?_)
  · rintro B i σ' C' x C2 e hi ⟨xs', o1, x1, hA1⟩ c2 tg
    have hi6 : i < 6 := hi
    have hri : i < rows6.length := hi
    have er : (rows6.map ti).getD i .none = ti (rows6.getD i []) := by
      rw [List.getD_eq_getElem?_getD, List.getElem?_map, List.getD_eq_getElem?_getD, List.getElem?_eq_getElem hri]
      rfl
    obtain ⟨rl, rs⟩ := rows6_ok (rows6.getD i []) (by
      rw [List.getD_eq_getElem?_getD, List.getElem?_eq_getElem hri]
      exact List.getElem_mem hri)
    refine tg σ' _ o1.kn _ fun σ2 k2 hw => ?_
    rw [er] at k2
    have hs2 : σ2[0]? = σ'[0]? := wipe_at (hw [1] (fun p hp => by rw [List.mem_singleton.mp hp]; simp)) (by decide)
    have o2 := (o1.step c2).slots k2 hs2
    have hA2 := hA1.ex c2.k
    generalize hr0 : rows6.getD i [] = r at *
    refine seq_i (ow_par (x := ti (wordP (r.getD 0 0) (r.getD 1 0) (r.getD 2 0))) (y := ti []) o2 (da_cons (d_call (da_cons (d_op (d_var rfl) d_int (rd_at (i := 0) (by omega))) (da_cons (d_op (d_var rfl) d_int (rd_at (i := 1) (by omega))) (da_cons (d_op (d_var rfl) d_int (rd_at (i := 2) (by omega))) da_nil)))
      ⟨_, _, _, sg_at rs (by omega), sg_at rs (by omega), sg_at rs (by omega), rfl, rfl⟩) (da_cons (d_tup da_nil (by show (0 : Nat) ≤ 100000; decide)) da_nil)) (by decide) (by decide) fun σ3 C3 o3 e3 => ?_)
    generalize hW : wordP (r.getD 0 0) (r.getD 1 0) (r.getD 2 0) = W at o3
    have hWl : W.length = 6 := by rw [← hW]; rfl
    refine seq_i (raw_for (K := K) (A := C3) (σ := σ3) (δ := [none, some (ti r), some (ti W), some (ti []), none, none, none, none]) (w_enumI (m := 4) (n := 5) (da_cons (d_var (i := 2) rfl) da_nil)) o3.kn (fun B' j σ'' C'' => Ow K A0 σ'' C'' [none, some (ti r), some (ti W), some (ti (lotUpTo W j)), none, none, none, none] 0 p xs' ∧ Ex B'.k C''.k ∧ Ex C3.k C''.k)
      (fun B' e => ⟨o3.step e, Ex.refl _, e.k⟩) (fun B' j σ'' C'' _ ⟨_, h, _⟩ => h) ?_ ?_)
    · rintro B' j σ4 C4 x' C5 e4 hj ⟨o4, x4, y4⟩ c5 tg'
      refine tg' σ4 _ o4.kn _ fun σ5 k5 hw5 => ?_
      have hs5 : σ5[0]? = σ4[0]? := wipe_at (hw5 [4, 5] (fun p hp => by
        rcases List.mem_cons.mp hp with rfl | hp
        · exact List.mem_cons_self
        · rw [List.mem_singleton.mp hp]
          simp)) (by decide)
      have o5 := (o4.step c5).slots k5 hs5
      have m4 : CMul 4 (j : Int) := .inl ⟨by decide, by decide⟩
      refine ow_set (d := ti (lotUpTo W (j + 1))) o5 ?_ (by decide) fun σ6 C6 o6 e6 => ?_
      · rw [lotUp_succ]
        refine d_catI (d_var rfl) (d_if (b_test (d_op (d_var rfl) d_int rd_cmp)) (fun hb => ?_) fun hb => ?_) ?_
        · rw [show lotPart j (W.getD j 0) = [4 * (j : Int), 4 * (j : Int) + W.getD j 0] from if_pos hb]
          exact d_tup (da_cons (d_op d_int (d_var rfl) (rd_intC (f := fun i j => i * j) m4)) (da_cons (d_op (d_op d_int (d_var rfl) (rd_intC (f := fun i j => i * j) m4)) (d_var rfl) rd_int) da_nil)) (by show (2 : Nat) ≤ 100000; decide)
        · rw [show lotPart j (W.getD j 0) = [] from if_neg (fun z => by
            rw [z] at hb
            cases hb)]
          exact d_tup da_nil (by show (0 : Nat) ≤ 100000; decide)
        · have h1 := lotUp_len W j
          have h2 := lotUp_len W (j + 1)
          rw [lotUp_succ, List.length_append] at h2
          omega
      · exact ⟨C6, rfl, o6.fgt ((Fgt.set [none, some (ti r), some (ti W), some (ti (lotUpTo W (j + 1))), some (.int (j : Nat)), some (.int (W.getD j 0)), none, none] 5).trans (Fgt.set [none, some (ti r), some (ti W), some (ti (lotUpTo W (j + 1))), some (.int (j : Nat)), none, none, none] 4)),
          (x4.trans c5.k).trans e6.k, (y4.trans c5.k).trans e6.k⟩
    · rintro B' σ4 C4 e4 ⟨o4, x4, y4⟩
      rw [hWl] at o4
      have hlx : xs'.length < 100000 := by
        rw [hA1.len, List.length_map, List.length_append, List.length_map, List.length_take]
        show 5 + min i 6 < 100000
        omega
      refine ow_app (d := ti (lotUpTo W 6)) o4 (d_var rfl) hlx fun C5 v o5 x5 hv => ?_
      refine ⟨C5, rfl, xs' ++ [v], o5.fgt (((Fgt.set [none, some (ti r), some (ti W), some (ti (lotUpTo W 6)), none, none, none, none] 3).trans (Fgt.set [none, some (ti r), some (ti W), none, none, none, none, none] 2)).trans (Fgt.set [none, some (ti r), none, none, none, none, none, none] 1)),
        (((x1.trans c2.k).trans e3.k).trans y4).trans x5, ?_⟩
      have et : rows6.take (i + 1) = rows6.take i ++ [r] := by
        rw [List.take_add_one, List.getElem?_eq_getElem hri, ← hr0, List.getD_eq_getElem?_getD, List.getElem?_eq_getElem hri]
        rfl
      have e9 : base1 ++ (rows6.take i ++ [r]).map rowLot = (base1 ++ (rows6.take i).map rowLot) ++ [rowLot r] := by
        rw [List.map_append, ← List.append_assoc]
        rfl
      rw [et, e9, List.map_append]
      refine (((hA2.ex e3.k).ex y4).ex x5).app (.cons ?_ .nil)
      rw [show rowLot r = lotUpTo W 6 by unfold rowLot; rw [hW]]
      exact hv
  · rintro B σ' C' e ⟨xs', o1, x1, hA1⟩
    obtain ⟨l1, l2, l3⟩ := o1.learnt
    have hk : KnS K (σ'.set 0 (some (.ref p))) (C'.learn p _ o1.st).k [some (.list ((base1 ++ rows6.map rowLot).map ti)), none, none, none, none, none, none, none] :=
      (o1.kn.ex l2).set (o1.da hA1)
    have es : σ'.set 0 (some (.ref p)) = σ' := by
      have := o1.sl
      refine List.ext_getElem? fun j => ?_
      rw [List.getElem?_set]
      split
      · next hj => subst hj; rw [this]; split
                   · rfl
                   · next hn => rw [List.getElem?_eq_none (by omega)] at this; cases this
      · rfl
    rw [es] at hk
    have fin : StD K (tRet (tOp rCat (tVar 0) (tLst (tCons (tTup (tCons (tC (.int 1)) (tCons (tC (.int 2)) (tCons (tC (.int 3)) (tCons (tC (.int 4)) (tCons (tC (.int 8)) (tCons (tC (.int 12)) (tCons (tC (.int 16)) (tCons (tC (.int 20)) tNil))))))))) tNil))))
        [some (.list ((base1 ++ rows6.map rowLot).map ti)), none, none, none, none, none, none, none] (.ret (.list (baseL.map ti))) := by
      refine s_ret (EvD.to (d_op (d_var rfl) (d_lst (da_cons (d := ti [1, 2, 3, 4, 8, 12, 16, 20]) (d_tup (da_cons d_int (da_cons d_int (da_cons d_int (da_cons d_int (da_cons d_int (da_cons d_int (da_cons d_int (da_cons d_int da_nil)))))))) (by show (8 : Nat) ≤ 100000; decide)) da_nil) (by show (1 : Nat) ≤ 100000; decide)) (rd_catL (by show (5 + 6 + 1 : Nat) ≤ 100000; decide))) ?_)
      unfold baseL
      rw [List.map_append (l₂ := [[1, 2, 3, 4, 8, 12, 16, 20]])]
      rfl
    exact fin σ' (C'.learn p _ o1.st) hk D (q.pr l1)
end
end Lo
/-! M2: the 4096 numbers. -/
namespace Lo
open PySem L2 PyProof.Rows

/-! ### xor of naturals -/
theorem nat_xor_add_and (m : Nat) : ∀ n : Nat, (m ^^^ n) + 2 * (m &&& n) = m + n := by
  induction m using Nat.strongRecOn with
  | ind m ih =>
    intro n
    by_cases h0 : m = 0
    · subst h0
      simp
    · have ih' := ih (m / 2) (by omega) (n / 2)
      rw [← Nat.xor_div_two, ← Nat.and_div_two] at ih'
      have x1 := @Nat.xor_mod_two_eq_one m n
      have a1 := @Nat.and_mod_two_eq_one m n
      omega
theorem xor_nat (m n : Nat) : xorI (m : Int) (n : Int) = ((m ^^^ n : Nat) : Int) := by
  show Builtin.bitXor _ _ = _
  rw [bitXor_and, bitAnd_pp (by omega) (by omega), Int.toNat_natCast, Int.toNat_natCast]
  have h := nat_xor_add_and m n
  omega
theorem bitB_nat (n i : Nat) : bitB (n : Int) i = n.testBit i := by
  unfold bitB
  rw [bitAnd_m1, Nat.testBit_eq_decide_div_mod_eq]
  have e : (n : Int) / 2 ^ i % 2 = ((n / 2 ^ i % 2 : Nat) : Int) := by
    rw [Int.natCast_emod, Int.natCast_ediv, Int.natCast_pow]
    rfl
  rw [e]
  have : n / 2 ^ i % 2 = 0 ∨ n / 2 ^ i % 2 = 1 := by omega
  rcases this with h | h <;> rw [h] <;> rfl
/-! ### the span -/
theorem rev_ind {P : List Nat → Prop} (h0 : P []) (h1 : ∀ bs b, P bs → P (bs ++ [b])) (bs : List Nat) : P bs := by
  have h : ∀ l : List Nat, P l.reverse := fun l => by
    induction l with
    | nil => exact h0
    | cons b l ih =>
      rw [List.reverse_cons]
      exact h1 _ _ ih
  have := h bs.reverse
  rwa [List.reverse_reverse] at this
def rigS (bs : List Nat) : List Nat := bs.foldl (fun acc b => acc ++ acc.map (· ^^^ b)) [0]
theorem rigS_snoc (bs : List Nat) (b : Nat) : rigS (bs ++ [b]) = rigS bs ++ (rigS bs).map (· ^^^ b) := by
  unfold rigS
  rw [List.foldl_append]
  rfl
theorem rig_ind {P : Nat → Prop} (h0 : P 0) : ∀ (bs : List Nat), (∀ b ∈ bs, ∀ n, P n → P (n ^^^ b)) → ∀ n ∈ rigS bs, P n := by
  intro bs
  induction bs using rev_ind with
  | h0 =>
    intro _ n hn
    rw [List.mem_singleton.mp hn]
    exact h0
  | h1 bs b ih =>
    intro h n hn
    rw [rigS_snoc] at hn
    have ih' := ih fun c hc => h c (List.mem_append.mpr (.inl hc))
    rcases List.mem_append.mp hn with hn | hn
    · exact ih' n hn
    · obtain ⟨m, hm, rfl⟩ := List.mem_map.mp hn
      exact h b (List.mem_append.mpr (.inr (List.mem_singleton.mpr rfl))) m (ih' m hm)
theorem rig_len (bs : List Nat) : (rigS bs).length = 2 ^ bs.length := by
  induction bs using rev_ind with
  | h0 => rfl
  | h1 bs b ih =>
    rw [rigS_snoc, List.length_append, List.length_map, ih, List.length_append, List.length_singleton, Nat.pow_succ]
    omega
theorem rig_zero (bs : List Nat) : 0 ∈ rigS bs := by
  induction bs using rev_ind with
  | h0 => exact List.mem_singleton.mpr rfl
  | h1 bs b ih =>
    rw [rigS_snoc]
    exact List.mem_append.mpr (.inl ih)
theorem rig_xor (bs : List Nat) : ∀ m n, m ∈ rigS bs → n ∈ rigS bs → m ^^^ n ∈ rigS bs := by
  induction bs using rev_ind with
  | h0 =>
    intro m n hm hn
    rw [List.mem_singleton.mp hm, List.mem_singleton.mp hn]
    exact List.mem_singleton.mpr rfl
  | h1 bs b ih =>
    intro m n hm hn
    rw [rigS_snoc] at hm hn ⊢
    rcases List.mem_append.mp hm with hm | hm
    · rcases List.mem_append.mp hn with hn | hn
      · exact List.mem_append.mpr (.inl (ih m n hm hn))
      · obtain ⟨n', hn', rfl⟩ := List.mem_map.mp hn
        refine List.mem_append.mpr (.inr (List.mem_map.mpr ⟨m ^^^ n', ih m n' hm hn', ?_⟩))
        exact Nat.xor_assoc _ _ _
    · obtain ⟨m', hm', rfl⟩ := List.mem_map.mp hm
      rcases List.mem_append.mp hn with hn | hn
      · refine List.mem_append.mpr (.inr (List.mem_map.mpr ⟨m' ^^^ n, ih m' n hm' hn, ?_⟩))
        rw [Nat.xor_assoc, Nat.xor_assoc, Nat.xor_comm n b]
      · obtain ⟨n', hn', rfl⟩ := List.mem_map.mp hn
        refine List.mem_append.mpr (.inl ?_)
        have e : m' ^^^ b ^^^ (n' ^^^ b) = m' ^^^ n' := by
          rw [Nat.xor_assoc, Nat.xor_comm n' b, ← Nat.xor_assoc b b n', Nat.xor_self, Nat.zero_xor]
        rw [e]
        exact ih m' n' hm' hn'
def basN : List Nat := [255, 3855, 61455, 983055, 15728655, 5844995, 9654277, 9777200, 3756112, 3355392, 5592320, 1118494]
theorem basN_eq : baseL.map (fun L => (L.map fun l => 1 * 2 ^ l.toNat).sum) = basN.map fun n : Nat => (n : Int) := by decide +kernel
theorem base_ok : ∀ L ∈ baseL, L.length ≤ 1000 ∧ ∀ l ∈ L, Lamp l := by decide +kernel
theorem base_len : baseL.length = 12 := by decide +kernel
/-- the weight -/
def wtB (p : Nat → Bool) : Nat := ((List.range 24).filter p).length
def wtN (n : Nat) : Nat := wtB fun i => n.testBit i
theorem rig_wt : ((rigS basN).all fun n => wtN n % 4 == 0) = true := by decide +kernel
theorem rig_full : 16777215 ∈ rigS basN := by decide +kernel
theorem bas_lt : ∀ b ∈ basN, b < 2 ^ 24 := by decide +kernel
theorem rig_lt : ∀ n ∈ rigS basN, n < 2 ^ 24 := rig_ind (by decide) basN fun b hb n hn => Nat.xor_lt_two_pow hn (bas_lt b hb)
end Lo
/-! M3: right lots by xors, weights, long rows. -/
namespace Lo
open PySem L2 PyProof.Rows

/-! ### right, by xors -/
def vS (l h : Bool) : Int := (if l then 1 else 0) + (if h then 2 else 0)
theorem sg_v (a b c : Bool) : sg a b c = vS (a ^^ c) (b ^^ c) := by cases a <;> cases b <;> cases c <;> rfl
theorem mul2_v : ∀ l h : Bool, mulS 2 (vS l h) = vS h (l ^^ h) := by decide +kernel
theorem mul3_v : ∀ l h : Bool, mulS 3 (vS l h) = vS (l ^^ h) l := by decide +kernel
theorem x3_v : ∀ a b c d e f : Bool, x3 (vS a b) (vS c d) (vS e f) = vS (a ^^ c ^^ e) (b ^^ d ^^ f) := by decide +kernel
theorem v_eq : ∀ a b c d : Bool, decide (vS a b = vS c d) = (!(a ^^ c) && !(b ^^ d)) := by decide +kernel
theorem word_eq (a b c x y z x' y' z' : Int) : decide ([a, b, c, x, y, z] = [a, b, c, x', y', z']) = (decide (x = x') && (decide (y = y') && decide (z = z'))) := by
  rw [Bool.eq_iff_iff, decide_eq_true_iff, Bool.and_eq_true_iff, Bool.and_eq_true_iff, decide_eq_true_iff, decide_eq_true_iff, decide_eq_true_iff]
  simp
/-- xor over places -/
def xs (l : List Nat) (p : Nat → Bool) : Bool := l.foldr (fun i acc => p i ^^ acc) false
theorem xs_xor (p q : Nat → Bool) : ∀ l, xs l (xorB p q) = (xs l p ^^ xs l q)
  | [] => rfl
  | i :: l => by
    have ih := xs_xor p q l
    unfold xs at ih ⊢
    rw [List.foldr_cons, List.foldr_cons, List.foldr_cons, ih]
    unfold xorB
    generalize List.foldr (fun i acc => p i ^^ acc) false l = a
    generalize List.foldr (fun i acc => q i ^^ acc) false l = b
    cases p i <;> cases q i <;> cases a <;> cases b <;> rfl
theorem xs_congr {p q : Nat → Bool} : ∀ {l : List Nat}, (∀ i ∈ l, p i = q i) → xs l p = xs l q
  | [], _ => rfl
  | i :: l, h => by
    have ih := xs_congr (l := l) fun j hj => h j (List.mem_cons_of_mem _ hj)
    unfold xs at ih ⊢
    rw [List.foldr_cons, List.foldr_cons, ih, h i List.mem_cons_self]
def tops : List Nat := [0, 4, 8, 12, 16, 20]
def masks : List (List Nat) := [[0, 1, 2, 3] ++ tops, [4, 5, 6, 7] ++ tops, [8, 9, 10, 11] ++ tops, [12, 13, 14, 15] ++ tops, [16, 17, 18, 19] ++ tops, [20, 21, 22, 23] ++ tops,
  [1, 3, 5, 7, 9, 11, 13, 15], [2, 3, 6, 7, 10, 11, 14, 15],
  [1, 3, 2, 3, 6, 7, 9, 11, 17, 19], [1, 3, 5, 7, 6, 7, 10, 11, 18, 19],
  [2, 3, 5, 7, 6, 7, 9, 11, 21, 23], [1, 3, 2, 3, 5, 7, 10, 11, 22, 23]]
theorem masks_lt : ∀ l ∈ masks, ∀ i ∈ l, i < 24 := by decide +kernel
theorem beq_xor (a b : Bool) : (a == b) = !(a ^^ b) := by cases a <;> cases b <;> rfl
theorem right_xs (p : Nat → Bool) : rightB p = masks.all fun l => !xs l p := by
  have e1 : allEq p = (!xs ([0, 1, 2, 3] ++ tops) p && (!xs ([4, 5, 6, 7] ++ tops) p && (!xs ([8, 9, 10, 11] ++ tops) p && (!xs ([12, 13, 14, 15] ++ tops) p && (!xs ([16, 17, 18, 19] ++ tops) p && (!xs ([20, 21, 22, 23] ++ tops) p && true)))))) := by
    show ((par p 0 == top p) && ((par p 1 == top p) && ((par p 2 == top p) && ((par p 3 == top p) && ((par p 4 == top p) && ((par p 5 == top p) && true)))))) = _
    simp only [beq_xor, xs, tops, par, top, List.cons_append, List.nil_append, List.foldr_cons, List.foldr_nil, Bool.xor_false, Bool.xor_assoc]
  have e2 : wordB p = (!xs [1, 3, 5, 7, 9, 11, 13, 15] p && !xs [2, 3, 6, 7, 10, 11, 14, 15] p && ((!xs [1, 3, 2, 3, 6, 7, 9, 11, 17, 19] p && !xs [1, 3, 5, 7, 6, 7, 10, 11, 18, 19] p) && (!xs [2, 3, 5, 7, 6, 7, 9, 11, 21, 23] p && !xs [1, 3, 2, 3, 5, 7, 10, 11, 22, 23] p))) := by
    unfold wordB
    simp only [sgn, sg_v]
    unfold wordP
    rw [word_eq, mul2_v, mul3_v, mul2_v, mul3_v, x3_v, x3_v, x3_v, v_eq, v_eq, v_eq]
    simp only [xs, List.foldr_cons, List.foldr_nil, Bool.xor_false, Bool.xor_assoc]
  unfold rightB masks
  rw [e1, e2]
  simp only [List.all_cons, List.all_nil, Bool.and_true, Bool.and_assoc]
theorem right_congr {p q : Nat → Bool} (h : ∀ i, i < 24 → p i = q i) : rightB p = rightB q := by
  rw [right_xs, right_xs]
  have : ∀ l ∈ masks, (!xs l p) = !xs l q := fun l hl => by rw [xs_congr fun i hi => h i (masks_lt l hl i hi)]
  rw [Bool.eq_iff_iff, List.all_eq_true, List.all_eq_true]
  exact ⟨fun z l hl => by rw [← this l hl]; exact z l hl, fun z l hl => by rw [this l hl]; exact z l hl⟩
theorem right_xor {p q : Nat → Bool} (hp : rightB p = true) (hq : rightB q = true) : rightB (xorB p q) = true := by
  rw [right_xs] at *
  rw [List.all_eq_true] at *
  intro l hl
  have h1 := hp l hl
  have h2 := hq l hl
  rw [xs_xor]
  revert h1 h2
  cases xs l p <;> cases xs l q <;> decide
/-- the lamps of a natural -/
def tb (n : Nat) (i : Nat) : Bool := n.testBit i
theorem tb_xor (m n : Nat) : tb (m ^^^ n) = xorB (tb m) (tb n) := by
  funext i
  exact Nat.testBit_xor ..
theorem bas_right : ∀ b ∈ basN, (masks.all fun l => !xs l (tb b)) = true := by decide +kernel
theorem zero_right : (masks.all fun l => !xs l (tb 0)) = true := by decide +kernel
theorem rig_right : ∀ n ∈ rigS basN, rightB (tb n) = true := rig_ind (P := fun n => rightB (tb n) = true) (by rw [right_xs]; exact zero_right) basN fun b hb n hn => by
  rw [tb_xor]
  exact right_xor hn (by rw [right_xs]; exact bas_right b hb)
theorem rig_wt' {n : Nat} (h : n ∈ rigS basN) : wtB (tb n) % 4 = 0 := by
  have := List.all_eq_true.mp rig_wt n h
  exact beq_iff_eq.mp this
/-! ### sums over the places -/
def S (f : Nat → Int) : Int := (tab f).sum
theorem S_congr {f g : Nat → Int} (h : ∀ i, i < 24 → f i = g i) : S f = S g := by
  unfold S tab
  rw [List.map_congr_left fun i hi => h i (List.mem_range.mp hi)]
theorem sum_add (f g : Nat → Int) : ∀ l : List Nat, (l.map fun i => f i + g i).sum = (l.map f).sum + (l.map g).sum
  | [] => rfl
  | i :: l => by
    rw [List.map_cons, List.map_cons, List.map_cons, List.sum_cons, List.sum_cons, List.sum_cons, sum_add f g l]
    omega
theorem S_add (f g : Nat → Int) : S (fun i => f i + g i) = S f + S g := sum_add f g _
theorem sum_mul (c : Int) (f : Nat → Int) : ∀ l : List Nat, (l.map fun i => c * f i).sum = c * (l.map f).sum
  | [] => by simp
  | i :: l => by
    rw [List.map_cons, List.map_cons, List.sum_cons, List.sum_cons, sum_mul c f l, Int.mul_add]
theorem S_mul (c : Int) (f : Nat → Int) : S (fun i => c * f i) = c * S f := sum_mul c f _
theorem S_const (c : Int) : S (fun _ => c) = 24 * c := by
  show ((List.range 24).map fun _ => c).sum = 24 * c
  have e : (List.range 24).map (fun _ => c) = [c, c, c, c, c, c, c, c, c, c, c, c, c, c, c, c, c, c, c, c, c, c, c, c] := rfl
  rw [e]
  simp only [List.sum_cons, List.sum_nil]
  omega
theorem sum_b2 (p : Nat → Bool) : ∀ l : List Nat, (l.map fun i => b2 (p i)).sum = ((l.filter p).length : Nat)
  | [] => rfl
  | i :: l => by
    rw [List.map_cons, List.sum_cons, sum_b2 p l]
    cases h : p i with
    | true =>
      rw [List.filter_cons_of_pos h, List.length_cons]
      show (1 : Int) + _ = _
      omega
    | false =>
      rw [List.filter_cons_of_neg (by rw [h]; decide)]
      show (0 : Int) + _ = _
      omega
theorem S_b2 (p : Nat → Bool) : S (fun i => b2 (p i)) = (wtB p : Nat) := sum_b2 p _
def andB (p q : Nat → Bool) (i : Nat) : Bool := p i && q i
theorem b2_xor (a b : Bool) : b2 (a ^^ b) = b2 a + b2 b - 2 * b2 (a && b) := by cases a <;> cases b <;> rfl
theorem b2_mul (a b : Bool) : b2 a * b2 b = b2 (a && b) := by cases a <;> cases b <;> rfl
theorem wt_xor (p q : Nat → Bool) : (wtB (xorB p q) : Int) = wtB p + wtB q - 2 * wtB (andB p q) := by
  rw [← S_b2, ← S_b2, ← S_b2, ← S_b2]
  have e : S (fun i => b2 (xorB p q i)) = S (fun i => b2 (p i) + b2 (q i) + (-2) * b2 (andB p q i)) := S_congr fun i _ => by
    show b2 (p i ^^ q i) = b2 (p i) + b2 (q i) + (-2) * b2 (p i && q i)
    rw [b2_xor]
    omega
  rw [e, S_add (fun i => b2 (p i) + b2 (q i)), S_add, S_mul]
  omega
theorem even_and {m n : Nat} (hm : m ∈ rigS basN) (hn : n ∈ rigS basN) : wtB (andB (tb m) (tb n)) % 2 = 0 := by
  have h1 := rig_wt' hm
  have h2 := rig_wt' hn
  have h3 := rig_wt' (rig_xor basN m n hm hn)
  rw [tb_xor] at h3
  have h4 := wt_xor (tb m) (tb n)
  omega
/-! ### long rows -/
structure LR (ns : List Int) (n : Nat) (m : Int) (h : Nat → Int) : Prop where
  len : ns.length = 24
  at_ : ∀ i, i < 24 → ns.getD i 0 = m + 2 * b2 (tb n i) + 4 * h i
  mem : n ∈ rigS basN
  m01 : m = 0 ∨ m = 1
  hs : S h % 2 = m
section
variable {ns ms : List Int} {n k : Nat} {m m' : Int} {h h' : Nat → Int}
theorem b2_01 (b : Bool) : b2 b = 0 ∨ b2 b = 1 := by cases b <;> simp [b2]
theorem sum_tab (hl : ns.length = 24) : ns.sum = S fun i => ns.getD i 0 := by
  unfold S
  rw [tab_of hl]
theorem LR.mod (L : LR ns n m h) {i : Nat} (hi : i < 24) : ns.getD i 0 % 2 = m := by
  have h1 := L.at_ i hi
  have h2 := L.m01
  omega
theorem LR.mixed (L : LR ns n m h) : mixedP ns = none := by
  unfold mixedP
  rw [List.find?_eq_none]
  intro i hi
  rw [L.len] at hi
  have h1 := L.mod (List.mem_range.mp hi)
  have h2 := L.mod (show 0 < 24 by decide)
  rw [h1, h2]
  simp
theorem LR.odd (L : LR ns n m h) {i : Nat} (hi : i < 24) : oddB ns i = tb n i := by
  unfold oddB
  have h1 := L.at_ i hi
  have h2 := L.mod (show 0 < 24 by decide)
  rw [h2]
  have e : (ns.getD i 0 - m) / 2 % 2 = b2 (tb n i) := by
    have h3 := b2_01 (tb n i)
    omega
  rw [e]
  cases tb n i <;> rfl
theorem LR.sum (L : LR ns n m h) : ns.sum = 24 * m + 2 * (wtB (tb n) : Nat) + 4 * S h := by
  rw [sum_tab L.len, S_congr L.at_, S_add (fun i => m + 2 * b2 (tb n i)), S_add (fun _ => m), S_const, S_mul, S_mul, S_b2]
theorem LR.long (L : LR ns n m h) : Lng ns := by
  refine ⟨L.len, ?_⟩
  unfold longB breakD
  rw [L.mixed]
  have hr : rightB (oddB ns) = true := by rw [right_congr fun i hi => L.odd hi]; exact rig_right n L.mem
  have h0 : restI ns = 0 := by
    unfold restI
    have h1 := L.sum
    have h2 := L.mod (show 0 < 24 by decide)
    have h3 := rig_wt' L.mem
    have h4 := L.hs
    have h5 := L.m01
    rw [h1, h2]
    omega
  show isN (if rightB (oddB ns) = true then (if restI ns = 0 then PyData.none else .tuple [.str "sum", .int (restI ns)]) else .tuple [.str "lot", ti (Lp (oddB ns))]) = true
  rw [if_pos hr, if_pos h0]
  rfl
theorem tb_full : ∀ i, i < 24 → tb 16777215 i = true := by decide +kernel
theorem tb_zero (i : Nat) : tb 0 i = false := Nat.zero_testBit i
/-- the sum of two -/
theorem LR.add {n' : Nat} (L : LR ns n m h) (L' : LR ms n' m' h') : ∃ n2 m2 h2, LR (sumR ns ms) n2 m2 h2 := by
  have ev := even_and L.mem L'.mem
  have hand : S (fun i => b2 (andB (tb n) (tb n') i)) = (wtB (andB (tb n) (tb n')) : Nat) := S_b2 _
  have hx := rig_xor basN n n' L.mem L'.mem
  have bx : ∀ i, b2 (tb (n ^^^ n') i) = b2 (tb n i) + b2 (tb n' i) - 2 * b2 (andB (tb n) (tb n') i) := fun i => by
    rw [tb_xor]
    exact b2_xor _ _
  have hs := L.hs
  have hs' := L'.hs
  have small : m = 0 ∨ m' = 0 → ∃ n2 m2 h2, LR (sumR ns ms) n2 m2 h2 := fun hm => by
    refine ⟨n ^^^ n', m + m', fun i => h i + h' i + b2 (andB (tb n) (tb n') i), len_tab _, fun i hi => ?_, hx, ?_, ?_⟩
    · rw [show (sumR ns ms).getD i 0 = ns.getD i 0 + ms.getD i 0 from tab_at hi, L.at_ i hi, L'.at_ i hi, bx]
      omega
    · have := L.m01
      have := L'.m01
      omega
    · rw [S_add (fun i => h i + h' i), S_add, hand]
      have := L.m01
      have := L'.m01
      omega
  rcases L.m01 with hm | hm
  · exact small (.inl hm)
  · rcases L'.m01 with hm' | hm'
    · exact small (.inr hm')
    · refine ⟨(n ^^^ n') ^^^ 16777215, 0, fun i => h i + h' i + b2 (andB (tb n) (tb n') i) + b2 (tb (n ^^^ n') i), len_tab _, fun i hi => ?_, rig_xor basN _ _ hx rig_full, .inl rfl, ?_⟩
      · have e : b2 (tb ((n ^^^ n') ^^^ 16777215) i) = 1 - b2 (tb (n ^^^ n') i) := by
          rw [tb_xor (n ^^^ n')]
          show b2 (tb (n ^^^ n') i ^^ tb 16777215 i) = _
          rw [tb_full i hi]
          cases tb (n ^^^ n') i <;> rfl
        rw [show (sumR ns ms).getD i 0 = ns.getD i 0 + ms.getD i 0 from tab_at hi, L.at_ i hi, L'.at_ i hi, e, bx]
        omega
      · rw [S_add (fun i => h i + h' i + b2 (andB (tb n) (tb n') i)), S_add (fun i => h i + h' i), S_add, hand, S_b2]
        have h4 := rig_wt' hx
        show (S h + S h' + (wtB (andB (tb n) (tb n')) : Int) + (wtB (fun i => tb (n ^^^ n') i) : Int)) % 2 = 0
        have e : wtB (fun i => tb (n ^^^ n') i) = wtB (tb (n ^^^ n')) := rfl
        rw [e]
        omega
/-- other signs at a right lot -/
theorem LR.turn (L : LR ns n m h) (hk : k ∈ rigS basN) : ∃ n2 m2 h2, LR (turnR (tb k) ns) n2 m2 h2 := by
  have hs := L.hs
  have hk4 := rig_wt' hk
  have at2 : ∀ i, i < 24 → (turnR (tb k) ns).getD i 0 = if tb k i = true then - ns.getD i 0 else ns.getD i 0 := fun i hi => tab_at hi
  rcases L.m01 with hm | hm
  · refine ⟨n, 0, fun i => h i + (-2) * (b2 (tb k i) * h i) + (-1) * b2 (andB (tb k) (tb n) i), len_tab _, fun i hi => ?_, L.mem, .inl rfl, ?_⟩
    · rw [at2 i hi, L.at_ i hi, hm]
      unfold andB
      cases tb k i <;> cases tb n i <;> simp [b2] <;> omega
    · have ev := even_and hk L.mem
      rw [S_add (fun i => h i + (-2) * (b2 (tb k i) * h i)), S_add, S_mul, S_mul, S_b2]
      omega
  · refine ⟨n ^^^ k, 1, fun i => h i + (-2) * (b2 (tb k i) * h i) + (-1) * b2 (tb k i), len_tab _, fun i hi => ?_, rig_xor basN n k L.mem hk, .inr rfl, ?_⟩
    · rw [at2 i hi, L.at_ i hi, hm, tb_xor]
      unfold xorB
      cases tb k i <;> cases tb n i <;> simp [b2] <;> omega
    · rw [S_add (fun i => h i + (-2) * (b2 (tb k i) * h i)), S_add, S_mul, S_mul, S_b2]
      show (S h + -2 * S (fun i => b2 (tb k i) * h i) + -1 * (wtB (tb k) : Int)) % 2 = 1
      omega
/-- twice -/
theorem LR.twice (L : LR ns n m h) : ∃ n2 m2 h2, LR (tab fun i => 2 * ns.getD i 0) n2 m2 h2 := by
  have h4 := rig_wt' L.mem
  have hb : S (fun i => b2 (tb n i) + 2 * h i) % 2 = 0 := by
    rw [S_add, S_mul, S_b2]
    show ((wtB (tb n) : Int) + 2 * S h) % 2 = 0
    omega
  rcases L.m01 with hm | hm
  · refine ⟨0, 0, fun i => b2 (tb n i) + 2 * h i, len_tab _, fun i hi => ?_, rig_zero _, .inl rfl, hb⟩
    rw [tab_at hi, L.at_ i hi, hm, tb_zero]
    show 2 * (0 + 2 * b2 (tb n i) + 4 * h i) = 0 + 2 * 0 + 4 * (b2 (tb n i) + 2 * h i)
    omega
  · refine ⟨16777215, 0, fun i => b2 (tb n i) + 2 * h i, len_tab _, fun i hi => ?_, rig_full, .inl rfl, hb⟩
    rw [tab_at hi, L.at_ i hi, hm, tb_full i hi]
    show 2 * (1 + 2 * b2 (tb n i) + 4 * h i) = 0 + 2 * 1 + 4 * (b2 (tb n i) + 2 * h i)
    omega
/-- the product is a multiple of 8 -/
theorem LR.dot {n' : Nat} (L : LR ns n m h) (L' : LR ms n' m' h') : dot ns ms % 8 = 0 := by
  have ev := even_and L.mem L'.mem
  have w1 := rig_wt' L.mem
  have w2 := rig_wt' L'.mem
  have hs := L.hs
  have hs' := L'.hs
  have e : Lo.dot ns ms = S fun i => m * m' + (2 * m) * b2 (tb n' i) + (4 * m) * h' i + (2 * m') * b2 (tb n i) + 4 * b2 (andB (tb n) (tb n') i) + (4 * m') * h i + 8 * (b2 (tb n i) * h' i + h i * b2 (tb n' i) + 2 * (h i * h' i)) := by
    show S (fun i => ns.getD i 0 * ms.getD i 0) = _
    refine S_congr fun i hi => ?_
    rw [L.at_ i hi, L'.at_ i hi, show b2 (andB (tb n) (tb n') i) = b2 (tb n i) * b2 (tb n' i) from (b2_mul _ _).symm]
    generalize b2 (tb n i) = b
    generalize b2 (tb n' i) = b'
    generalize h i = x
    generalize h' i = y
    simp only [Int.mul_add, Int.add_mul]
    have a1 : m * (2 * b') = 2 * m * b' := by rw [← Int.mul_assoc, Int.mul_comm m 2]
    have a2 : m * (4 * y) = 4 * m * y := by rw [← Int.mul_assoc, Int.mul_comm m 4]
    have a3 : 2 * b * m' = 2 * m' * b := by rw [Int.mul_assoc, Int.mul_comm b m', ← Int.mul_assoc]
    have a4 : 2 * b * (2 * b') = 4 * (b * b') := by
      rw [Int.mul_assoc, ← Int.mul_assoc b 2 b', Int.mul_comm b 2, Int.mul_assoc, ← Int.mul_assoc 2 2]
      rfl
    have a5 : 2 * b * (4 * y) = 8 * (b * y) := by
      rw [Int.mul_assoc, ← Int.mul_assoc b 4 y, Int.mul_comm b 4, Int.mul_assoc, ← Int.mul_assoc 2 4]
      rfl
    have a6 : 4 * x * m' = 4 * m' * x := by rw [Int.mul_assoc, Int.mul_comm x m', ← Int.mul_assoc]
    have a7 : 4 * x * (2 * b') = 8 * (x * b') := by
      rw [Int.mul_assoc, ← Int.mul_assoc x 2 b', Int.mul_comm x 2, Int.mul_assoc, ← Int.mul_assoc 4 2]
      rfl
    have a8 : 4 * x * (4 * y) = 8 * (2 * (x * y)) := by
      rw [Int.mul_assoc, ← Int.mul_assoc x 4 y, Int.mul_comm x 4, Int.mul_assoc, ← Int.mul_assoc 4 4, ← Int.mul_assoc 8 2]
      rfl
    rw [a1, a2, a3, a4, a5, a6, a7, a8]
    omega
  rw [e]
  rw [S_add (fun i => m * m' + (2 * m) * b2 (tb n' i) + (4 * m) * h' i + (2 * m') * b2 (tb n i) + 4 * b2 (andB (tb n) (tb n') i) + (4 * m') * h i)]
  rw [S_add (fun i => m * m' + (2 * m) * b2 (tb n' i) + (4 * m) * h' i + (2 * m') * b2 (tb n i) + 4 * b2 (andB (tb n) (tb n') i))]
  rw [S_add (fun i => m * m' + (2 * m) * b2 (tb n' i) + (4 * m) * h' i + (2 * m') * b2 (tb n i))]
  rw [S_add (fun i => m * m' + (2 * m) * b2 (tb n' i) + (4 * m) * h' i)]
  rw [S_add (fun i => m * m' + (2 * m) * b2 (tb n' i))]
  rw [S_add (fun i => m * m')]
  rw [S_const, S_mul, S_mul, S_mul, S_mul, S_mul, S_mul, S_b2, S_b2, S_b2]
  have f1 : wtB (fun i => tb n i) = wtB (tb n) := rfl
  have f2 : wtB (fun i => tb n' i) = wtB (tb n') := rfl
  have f3 : wtB (fun i => andB (tb n) (tb n') i) = wtB (andB (tb n) (tb n')) := rfl
  rw [f1, f2, f3]
  rcases L.m01 with hm | hm <;> rcases L'.m01 with hm' | hm' <;> rw [hm, hm'] <;> rw [hm] at hs <;> rw [hm'] at hs' <;> omega
theorem sq_sum (ns ms : List Int) : sq (sumR ns ms) = sq ns + 2 * dot ns ms + sq ms := by
  show S (fun i => (sumR ns ms).getD i 0 * (sumR ns ms).getD i 0) = S (fun i => ns.getD i 0 * ns.getD i 0) + 2 * S (fun i => ns.getD i 0 * ms.getD i 0) + S (fun i => ms.getD i 0 * ms.getD i 0)
  have e : S (fun i => (sumR ns ms).getD i 0 * (sumR ns ms).getD i 0) = S fun i => ns.getD i 0 * ns.getD i 0 + 2 * (ns.getD i 0 * ms.getD i 0) + ms.getD i 0 * ms.getD i 0 := S_congr fun i hi => by
    rw [show (sumR ns ms).getD i 0 = ns.getD i 0 + ms.getD i 0 from tab_at hi]
    rw [Int.mul_add, Int.add_mul, Int.add_mul, Int.mul_comm (ms.getD i 0) (ns.getD i 0)]
    omega
  rw [e, S_add (fun i => ns.getD i 0 * ns.getD i 0 + 2 * (ns.getD i 0 * ms.getD i 0)), S_add (fun i => ns.getD i 0 * ns.getD i 0), S_mul]
end
end Lo
/-! M4: the shape of a short one. -/
namespace Lo
open PySem L2 PyProof.Rows

theorem sum_mono {f g : Nat → Int} : ∀ {l : List Nat}, (∀ i ∈ l, f i ≤ g i) → (l.map f).sum ≤ (l.map g).sum
  | [], _ => Int.le_refl _
  | i :: l, h => by
    have ih := sum_mono (l := l) fun j hj => h j (List.mem_cons_of_mem _ hj)
    have h0 := h i List.mem_cons_self
    rw [List.map_cons, List.map_cons, List.sum_cons, List.sum_cons]
    omega
theorem S_mono {f g : Nat → Int} (h : ∀ i, i < 24 → f i ≤ g i) : S f ≤ S g := sum_mono fun i hi => h i (List.mem_range.mp hi)
theorem one_at : ∀ j, j < 24 → wtB (fun i => decide (i = j)) = 1 := by decide +kernel
theorem S_at (c d : Int) {j : Nat} (hj : j < 24) : S (fun i => if i = j then c else d) = c + 23 * d := by
  have e : S (fun i => if i = j then c else d) = S fun i => d + (c - d) * b2 (decide (i = j)) := S_congr fun i _ => by
    by_cases h : i = j
    · rw [if_pos h, decide_eq_true h]
      show c = d + (c - d) * 1
      omega
    · rw [if_neg h, decide_eq_false h]
      show d = d + (c - d) * 0
      omega
  rw [e, S_add, S_const, S_mul, S_b2, one_at j hj]
  omega
theorem top_ex (f : Nat → Int) : ∀ n : Nat, ∃ i, i < n + 1 ∧ ∀ j, j < n + 1 → f j ≤ f i
  | 0 => ⟨0, by decide, fun j hj => by rw [show j = 0 by omega]; exact Int.le_refl _⟩
  | n + 1 => by
    obtain ⟨i, hi, h⟩ := top_ex f n
    by_cases hc : f (n + 1) ≤ f i
    · refine ⟨i, by omega, fun j hj => ?_⟩
      by_cases hj2 : j < n + 1
      · exact h j hj2
      · rw [show j = n + 1 by omega]
        exact hc
    · refine ⟨n + 1, by omega, fun j hj => ?_⟩
      by_cases hj2 : j < n + 1
      · have := h j hj2
        omega
      · rw [show j = n + 1 by omega]
        exact Int.le_refl _
theorem sq_nonneg (x : Int) : 0 ≤ x * x := by
  rcases Int.le_total 0 x with h | h
  · exact Int.mul_nonneg h h
  · exact Int.mul_nonneg_of_nonpos_of_nonpos h h
theorem absI_sq (x : Int) : absI x * absI x = x * x := by
  unfold absI
  split
  · rw [Int.neg_mul_neg]
  · rfl
theorem absI_nn (x : Int) : 0 ≤ absI x := by
  unfold absI
  split <;> omega
theorem shape_ex {ns : List Int} {n : Nat} {m : Int} {h : Nat → Int} (L : LR ns n m h) (hs : sq ns = 32) : ∃ t z, Top ns t ∧ shapeOf t = some z := by
  obtain ⟨j, hj, hle⟩ := top_ex (fun i => absI (ns.getD i 0)) 23
  have hsq : S (fun i => ns.getD i 0 * ns.getD i 0) = 32 := hs
  have h1 : absI (ns.getD j 0) * absI (ns.getD j 0) ≤ 32 := by
    rw [absI_sq]
    have h2 := S_at (ns.getD j 0 * ns.getD j 0) 0 hj
    have h3 : S (fun i => if i = j then ns.getD j 0 * ns.getD j 0 else 0) ≤ S fun i => ns.getD i 0 * ns.getD i 0 := S_mono fun i _ => by
      by_cases e : i = j
      · subst e
        rw [if_pos rfl]
        exact Int.le_refl _
      · rw [if_neg e]
        exact sq_nonneg _
    omega
  have h0 := absI_nn (ns.getD j 0)
  have hlt : absI (ns.getD j 0) < 6 := by
    apply Classical.byContradiction
    intro hc
    have : 6 * 6 ≤ absI (ns.getD j 0) * absI (ns.getD j 0) := Int.mul_le_mul (by omega) (by omega) (by decide) (by omega)
    omega
  have hge : 2 ≤ absI (ns.getD j 0) := by
    apply Classical.byContradiction
    intro hc
    have h3 : S (fun i => ns.getD i 0 * ns.getD i 0) ≤ S fun _ => 1 := S_mono fun i hi => by
      have h4 := hle i hi
      have h5 := absI_nn (ns.getD i 0)
      have h4' : absI (ns.getD i 0) ≤ absI (ns.getD j 0) := h4
      rw [← absI_sq]
      have : absI (ns.getD i 0) = 0 ∨ absI (ns.getD i 0) = 1 := by omega
      rcases this with e | e <;> rw [e] <;> decide
    rw [S_const] at h3
    omega
  have h5 : absI (ns.getD j 0) ≠ 5 := fun e5 => by
    have odd : ∀ i, i < 24 → 1 ≤ ns.getD i 0 * ns.getD i 0 := fun i hi => by
      have a1 := L.mod hi
      have a2 := L.mod hj
      have a3 : ns.getD j 0 = 5 ∨ ns.getD j 0 = -5 := by
        unfold absI at e5
        split at e5 <;> omega
      have a4 : ns.getD i 0 ≠ 0 := fun z => by
        rw [z] at a1
        rcases a3 with a3 | a3 <;> rw [a3] at a2 <;> omega
      have a5 := sq_nonneg (ns.getD i 0)
      have a6 : ns.getD i 0 * ns.getD i 0 ≠ 0 := fun z => by
        rcases Int.mul_eq_zero.mp z with z | z <;> exact a4 z
      omega
    have h3 : S (fun i => if i = j then 25 else 1) ≤ S fun i => ns.getD i 0 * ns.getD i 0 := S_mono fun i hi => by
      by_cases e : i = j
      · subst e
        rw [if_pos rfl, ← absI_sq, e5]
        decide
      · rw [if_neg e]
        exact odd i hi
    rw [S_at 25 1 hj] at h3
    omega
  have hm : absI (ns.getD j 0) = 2 ∨ absI (ns.getD j 0) = 3 ∨ absI (ns.getD j 0) = 4 := by omega
  rcases hm with e | e | e
  · exact ⟨2, "eight", ⟨⟨j, hj, e⟩, fun i hi => by rw [← e]; exact hle i hi⟩, rfl⟩
  · exact ⟨3, "odd", ⟨⟨j, hj, e⟩, fun i hi => by rw [← e]; exact hle i hi⟩, rfl⟩
  · exact ⟨4, "pair", ⟨⟨j, hj, e⟩, fun i hi => by rw [← e]; exact hle i hi⟩, rfl⟩
end Lo
/-! E9: tally, rights, board. -/
namespace Lo
open PySem PySem.Spec L2 Evl PyProof.Rows

def talS : Nat → List Int
  | 0 => [0]
  | n + 1 => talS n ++ (talS n).map fun x => x + 1
theorem tal_len : ∀ n, (talS n).length = 2 ^ n
  | 0 => rfl
  | n + 1 => by
    show (talS n ++ _).length = _
    rw [List.length_append, List.length_map, tal_len n, Nat.pow_succ]
    omega
def castL (l : List Nat) : List Int := l.map fun n : Nat => (n : Int)
theorem pow12 {n : Nat} (h : n ≤ 12) : 2 ^ n ≤ 4096 := by
  have : (2 : Nat) ^ n ≤ 2 ^ 12 := Nat.pow_le_pow_right (by decide) h
  exact this
section
variable {P : Program} {w : World} {K : PySem.W.Frag} {mg : Str → Option Value} {base : Heap}
theorem ok_law_tally (F : FunM K mg "_law_tally" sLawTally) (T : Blt mg) : Dfn P w K mg base CX0 1 "_law_tally" [] (spD K fun ds d => ds = [] ∧ d = li (talS 12)) := by
  refine dfn_of F scLawTally (fun _ _ _ _ _ _ us hl => match us, hl with | [], _ => rfl) (fun ds d ⟨h, _⟩ => by rw [h]; rfl) ?_
  rintro f cdv A outer s H E hr ds d ⟨rfl, rfl⟩
  refine ⟨_, pss_cons (ps_set (i := 0) scLawTally.nd rfl (Or.inl rfl) (pe_lst (pa_cons pe_int pa_nil))) (pss_cons (ps_for PassesOwn.never rfl (pi_range1 rfl T.range (pa_cons pe_int pa_nil)) (pg_name (i := 1) scLawTally.nd rfl (Or.inl rfl))
    (pss_one (ps_set (i := 0) scLawTally.nd rfl (Or.inl rfl) (pe_op op_cat (pv 0) (pe_lc (own := [("_law_own", 2)]) (g := gName 2) (tt := tYes) rfl scLawTally.nd (pi_list (pv 0)) (blkOk_by (N := nLawTally) (sc := defScope sLawTally) (by decide +kernel))
      (fun _ _ _ _ _ => pg_name (i := 2) scLawTally.nd rfl (Or.inl rfl)) (fun _ _ _ _ _ => pts_nil) (fun _ _ _ _ _ => pe_op op_add (pv 2) pe_int)))))) (pss_one (ps_ret (pv 0)))), ?_⟩
  refine s_seq (s_set (d := li [0]) (d_lst (da_cons d_int da_nil) (by show (1 : Nat) ≤ 100000; decide))) (s_seq (s_for (fun i => [some (li (talS i)), none, none]) (w_rng1 (n := 1) (m := 12) (da_cons (d_int (i := 12)) da_nil) (by decide)) (Fgt.refl _) fun i hi => ?_) (s_ret (d_var rfl)))
  have h12 := pow12 (show i ≤ 12 by omega)
  have hl := tal_len i
  refine s_fgt (s_set (d := li (talS (i + 1))) (EvD.to (d_op (d_var rfl) (EvD.to (z := li ((talS i).map fun x => x + 1)) (d_lc (w_listI (n := 2) (d_var rfl)) (by omega) own1 (fun j hj => b_yes) (fun j hj _ => d_op (d_var rfl) d_int rd_int)) (congrArg PyData.list (given_map (fun x => x + 1) _)))
    (rd_catL (by rw [List.length_map, List.length_map, List.length_map]; omega))) (congrArg PyData.list List.map_append.symm))) (Fgt.set [some (li (talS (i + 1))), some (.int (i : Nat)), none] 1)
theorem ok_law_rights (F : FunM K mg "_law_rights" sLawRights) (T : Blt mg) (G1 : Dfn P w K mg base CX0 3 "_law_base" [] (spD K RBase)) (G2 : Dfn P w K mg base CX0 1 "_law_bits" ["_law_lot_so"] (spD K RLawBits)) :
    Dfn P w K mg base CX0 4 "_law_rights" [] (spD K fun ds d => ds = [] ∧ d = li (castL (rigS basN))) := by
  refine dfn_of F scLawRights (fun _ _ _ _ _ _ us hl => match us, hl with | [], _ => rfl) (fun ds d ⟨h, _⟩ => by rw [h]; rfl) ?_
  rintro f cdv A outer s H E hr ds d ⟨rfl, rfl⟩
  refine ⟨_, pss_cons (ps_set (i := 0) scLawRights.nd rfl (Or.inl rfl) (pe_lst (pa_cons pe_int pa_nil))) (pss_cons (ps_for PassesOwn.never rfl (pi_list (pc0 G1 hr)) (pg_name (i := 1) scLawRights.nd rfl (Or.inl rfl))
    (pss_cons (ps_set (i := 2) scLawRights.nd rfl (Or.inr rfl) (pc G2 (hr.mono (by decide)) (pa_cons (pv 1) pa_nil)))
    (pss_one (ps_set (i := 0) scLawRights.nd rfl (Or.inl rfl) (pe_op op_cat (pv 0) (pe_lc (own := [("_law_own", 3)]) (g := gName 3) (tt := tYes) rfl scLawRights.nd (pi_list (pv 0)) (blkOk_by (N := nLawRights) (sc := defScope sLawRights) (by decide +kernel))
      (fun _ _ _ _ _ => pg_name (i := 3) scLawRights.nd rfl (Or.inl rfl)) (fun _ _ _ _ _ => pts_nil) (fun _ _ _ _ _ => pe_op op_xor (pv 3) (pv 2))))))))
    (pss_one (ps_ret (pv 0)))), ?_⟩
  have src := w_list (K := K) (n := 1) (δ := [some (li (castL (rigS []))), none, none, none]) (d_call (R := RBase) da_nil ⟨rfl, rfl⟩)
  rw [List.length_map, base_len] at src
  refine s_seq (s_set (d := li (castL (rigS []))) (d_lst (da_cons d_int da_nil) (by show (1 : Nat) ≤ 100000; decide))) (s_seq (s_for (fun i => [some (li (castL (rigS (basN.take i)))), none, none, none]) src (Fgt.refl _) fun i hi => ?_) (s_ret (d_var rfl)))
  have hib : i < baseL.length := by rw [base_len]; exact hi
  have hin : i < basN.length := hi
  have er : (baseL.map ti).getD i .none = ti (baseL.getD i []) := by
    rw [List.getD_eq_getElem?_getD, List.getElem?_map, List.getD_eq_getElem?_getD, List.getElem?_eq_getElem hib]
    rfl
  have eb : ((baseL.getD i []).map fun l => 1 * 2 ^ l.toNat).sum = ((basN.getD i 0 : Nat) : Int) := by
    have h := congrArg (fun l : List Int => l.getD i 0) basN_eq
    rw [List.getD_eq_getElem?_getD, List.getD_eq_getElem?_getD, List.getElem?_map, List.getElem?_map, List.getElem?_eq_getElem hib, List.getElem?_eq_getElem hin] at h
    rw [List.getD_eq_getElem?_getD, List.getD_eq_getElem?_getD, List.getElem?_eq_getElem hib, List.getElem?_eq_getElem hin]
    exact h
  obtain ⟨ol, oa⟩ := base_ok (baseL.getD i []) (by
    rw [List.getD_eq_getElem?_getD, List.getElem?_eq_getElem hib]
    exact List.getElem_mem hib)
  rw [er]
  have hlen : (castL (rigS (basN.take i))).length ≤ 4096 := by
    unfold castL
    rw [List.length_map, rig_len, List.length_take]
    exact pow12 (by omega)
  have es : rigS (basN.take (i + 1)) = rigS (basN.take i) ++ (rigS (basN.take i)).map (· ^^^ basN.getD i 0) := by
    rw [List.take_add_one, List.getElem?_eq_getElem hin, List.getD_eq_getElem?_getD, List.getElem?_eq_getElem hin]
    exact rigS_snoc _ _
  have ec : castL (rigS (basN.take (i + 1))) = castL (rigS (basN.take i)) ++ (castL (rigS (basN.take i))).map fun x => xorI x (basN.getD i 0 : Nat) := by
    rw [es]
    unfold castL
    rw [List.map_append, List.map_map, List.map_map]
    congr 1
    exact List.map_congr_left fun n _ => (xor_nat n _).symm
  refine s_fgt (s_seq (s_set (d := .int (basN.getD i 0 : Nat)) (d_call (da_cons (d_var rfl) da_nil) ⟨_, ol, oa, rfl, by rw [eb]⟩)) (s_set (d := li (castL (rigS (basN.take (i + 1))))) (EvD.to (d_op (d_var rfl) (EvD.to (z := li ((castL (rigS (basN.take i))).map fun x => xorI x (basN.getD i 0 : Nat))) (d_lc (w_listI (n := 3) (d_var rfl)) (by omega) own1 (fun j hj => b_yes)
    (fun j hj _ => d_op (d_var rfl) (d_var rfl) rd_int)) (congrArg PyData.list (given_map (fun x => xorI x (basN.getD i 0 : Nat)) _)))
    (rd_catL (by rw [List.length_map, List.length_map, List.length_map]; omega))) (by rw [ec]; exact congrArg PyData.list List.map_append.symm))))
    ((Fgt.set [some (li (castL (rigS (basN.take (i + 1))))), some (ti (baseL.getD i [])), some (.int (basN.getD i 0 : Nat)), none] 2).trans (Fgt.set [some (li (castL (rigS (basN.take (i + 1))))), some (ti (baseL.getD i [])), none, none] 1))
/-- the board: the rights, some others, the tally -/
def RBoard (ds : List PyData) (d : PyData) : Prop := ds = [] ∧ d = .tuple [li (castL (rigS basN)), li ((castL (rigS basN)).filter fun x => decide ((talS 12).getD (Builtin.bitAnd x 4095).toNat 0 + (talS 12).getD (x / 2 ^ 12).toNat 0 = 8)), li (talS 12)]
theorem rd_atL {ns : List Int} {j : Int} (h0 : 0 ≤ j) (h : j.toNat < ns.length) : RD K (rIxL K) (li ns) (.int j) (.int (ns.getD j.toNat 0)) := by
  have e : j = ((j.toNat : Nat) : Int) := by omega
  refine rd_ixL ?_
  rw [e]
  refine atI_nat ?_
  rw [Int.toNat_natCast, List.getElem?_map, List.getD_eq_getElem?_getD, List.getElem?_eq_getElem h]
  rfl
theorem ok_law_board (F : FunM K mg "_law_board" sLawBoard) (T : Blt mg) (G1 : Dfn P w K mg base CX0 4 "_law_rights" [] (spD K fun ds d => ds = [] ∧ d = li (castL (rigS basN)))) (G2 : Dfn P w K mg base CX0 1 "_law_tally" [] (spD K fun ds d => ds = [] ∧ d = li (talS 12))) :
    Dfn P w K mg base CX0 5 "_law_board" [] (spD K RBoard) := by
  refine dfn_of F scLawBoard (fun _ _ _ _ _ _ us hl => match us, hl with | [], _ => rfl) (fun ds d ⟨h, _⟩ => by rw [h]; rfl) ?_
  rintro f cdv A outer s H E hr ds d ⟨rfl, rfl⟩
  refine ⟨_, pss_cons (ps_asg (pe_tup (pa_cons (pc0 G1 hr) (pa_cons (pc0 G2 (hr.mono (by decide))) pa_nil))) (pg_tup rfl (pgs_cons (pg_name (i := 0) scLawBoard.nd rfl (Or.inl rfl)) (pgs_cons (pg_name (i := 1) scLawBoard.nd rfl (Or.inr rfl)) pgs_nil))))
    (pss_one (ps_ret (pe_tup (pa_cons (pv 0) (pa_cons (pe_lc (own := [("_law_own", 2)]) (g := gName 2) rfl scLawBoard.nd (pi_list (pv 0)) (blkOk_by (N := nLawBoard) (sc := defScope sLawBoard) (by decide +kernel)) (fun _ _ _ _ _ => pg_name (i := 2) scLawBoard.nd rfl (Or.inl rfl))
      (fun _ _ _ _ _ => pts_one (pt_cmpR (eqK K hr.units) (pe_op op_add (pe_ix (ixLK K) (pv 1) (pe_op op_and (pv 2) pe_int) (fun _ _ => rfl)) (pe_ix (ixLK K) (pv 1) (pe_op op_shr (pv 2) pe_int) (fun _ _ => rfl))) pe_int (nomark _))) (fun _ _ _ _ _ => pv 2)) (pa_cons (pv 1) pa_nil)))))), ?_⟩
  refine s_seq (s_asg2 (x := li (castL (rigS basN))) (y := li (talS 12)) (da_cons (d_call da_nil ⟨rfl, rfl⟩) (da_cons (d_call da_nil ⟨rfl, rfl⟩) da_nil))) ?_
  have hlen : (castL (rigS basN)).length = 4096 := by
    unfold castL
    rw [List.length_map, rig_len]
    rfl
  have htl : (talS 12).length = 4096 := tal_len 12
  refine s_ret (d_tup (da_cons (d_var rfl) (da_cons (EvD.to (d_lc (w_listI (n := 2) (d_var rfl)) (by omega) own1 (fun i hi => b_test (d_op (d_op (d_op (d_var rfl) (d_op (d_var rfl) d_int rd_int) (rd_atL ?_ ?_)) (d_op (d_var rfl) (d_op (d_var rfl) d_int (rd_intC (f := fun i j => i / 2 ^ j.toNat) (show (0 : Int) ≤ 12 by decide))) (rd_atL ?_ ?_)) rd_int) d_int rd_eqI)) (fun i hi _ => d_var rfl))
    (congrArg PyData.list (given_filter (fun x => decide ((talS 12).getD (Builtin.bitAnd x 4095).toNat 0 + (talS 12).getD (x / 2 ^ 12).toNat 0 = 8)) _))) (da_cons (d_var rfl) da_nil))) (by show (3 : Nat) ≤ 100000; decide))
  · exact (bitAnd_range _ (by decide)).1
  · rw [htl]
    have := (bitAnd_range ((castL (rigS basN)).getD i 0) (y := 4095) (by decide)).2
    omega
  all_goals
    have hb : 0 ≤ (castL (rigS basN)).getD i 0 ∧ (castL (rigS basN)).getD i 0 < 2 ^ 24 := by
      have hm : (castL (rigS basN)).getD i 0 ∈ castL (rigS basN) := by
        rw [List.getD_eq_getElem?_getD, List.getElem?_eq_getElem hi]
        exact List.getElem_mem hi
      obtain ⟨n, hn, e⟩ := List.mem_map.mp hm
      have h2 := rig_lt n hn
      rw [← e]
      omega
  · show (0 : Int) ≤ (castL (rigS basN)).getD i 0 / 4096
    omega
  · rw [htl]
    show ((castL (rigS basN)).getD i 0 / 4096).toNat < 4096
    omega
end
end Lo
/-! A10: what is drawn: expressions that change the tin. -/
namespace Lo
open PySem PySem.Spec L2 Evl PyProof.Rows

/-- the tin at p: three numbers, the last at most n; it is not known -/
structure Tn (A : Hd) (p : Addr) (n : Nat) : Prop where
  nk : A.k p = none
  st : ∃ x y z : Int, 0 ≤ z ∧ z ≤ n ∧ A.h p = some (.lst [.int x, .int y, .int z])
/-- B is behind A, the tin at p may be changed -/
structure Pm (p : Addr) (A B : Hd) : Prop where
  k : Ex A.k B.k
  h : ∀ q o, q ≠ p → A.h q = some o → B.h q = some o
  fr : ∀ q, A.k q = none → A.h q ≠ none → B.k q = none
  pp : A.h p ≠ none → B.h p ≠ none
section
variable {K : PySem.W.Frag} {A B C : Hd} {p : Addr} {n m : Nat}
theorem Tn.there (t : Tn A p n) : A.h p ≠ none := fun z => by
  obtain ⟨_, _, _, _, _, e⟩ := t.st
  rw [z] at e
  cases e
theorem Tn.mono (t : Tn A p n) (h : n ≤ m) : Tn A p m := ⟨t.nk, let ⟨x, y, z, h1, h2, h3⟩ := t.st; ⟨x, y, z, h1, by omega, h3⟩⟩
theorem Tn.pr (t : Tn A p n) (e : Pr A B) : Tn B p n := ⟨e.fr p t.nk t.there, let ⟨x, y, z, h1, h2, h3⟩ := t.st; ⟨x, y, z, h1, h2, e.h _ _ h3⟩⟩
theorem Pr.pm (e : Pr A B) : Pm p A B := ⟨e.k, fun q o _ h => e.h q o h, e.fr, there_ne e.h⟩
theorem Pm.refl (A : Hd) : Pm p A A := (Pr.refl A).pm
theorem Pm.ne (a : Pm p A B) {q : Addr} (h : A.h q ≠ none) : B.h q ≠ none := by
  by_cases e : q = p
  · subst e
    exact a.pp h
  · cases ho : A.h q with
    | none => exact absurd ho h
    | some o =>
      rw [a.h q o e ho]
      exact fun z => nomatch z
theorem Pm.trans (a : Pm p A B) (b : Pm p B C) : Pm p A C := ⟨a.k.trans b.k, fun q o h1 h2 => b.h q o h1 (a.h q o h1 h2), fun q h1 h2 => b.fr q (a.fr q h1 h2) (a.ne h2), fun h => b.pp (a.pp h)⟩
/-- p is not known any more -/
def Hd.forget (B : Hd) (p : Addr) : Hd where
  k := fun q => if q = p then none else B.k q
  h := B.h
  ex := fun a u e0 => by
    have e : (if a = p then none else B.k a) = some u := e0
    by_cases z : a = p
    · rw [if_pos z] at e
      cases e
    · rw [if_neg z] at e
      exact B.ex a u e
theorem forget_at : (B.forget p).k p = none := if_pos rfl
theorem forget_ne {q : Addr} (h : q ≠ p) : (B.forget p).k q = B.k q := if_neg h
/-- from A the tin was learnt, then B came; it is forgotten again -/
theorem pm_forget {o : HO} (hp : A.h p = some o) (nk : A.k p = none) (e : Pr (A.learn p o hp) B) : Pm p A (B.forget p) := by
  have lk : ∀ q, q ≠ p → (A.learn p o hp).k q = A.k q := fun q h => upd_ne h
  refine ⟨fun q u hq => ?_, fun q o' _ hq => e.h q o' hq, fun q h1 h2 => ?_, fun h => there_ne e.h h⟩
  · have ne : q ≠ p := fun z => by
      rw [z, nk] at hq
      cases hq
    rw [forget_ne ne]
    exact e.k q u (by rw [lk q ne]; exact hq)
  · by_cases z : q = p
    · rw [z]
      exact forget_at
    · rw [forget_ne z]
      exact e.fr q (by rw [lk q z]; exact h1) h2
theorem learn_at {o : HO} (hp : A.h p = some o) : (A.learn p o hp).k p = some o := upd_same
/-- an expression that draws m times at most, the tin in slot i; its value is one of S -/
def EvM (K : PySem.W.Frag) (te : TE) (δ : De) (i m : Nat) (S : PyData → Prop) : Prop := ∀ (σ : L2.St) (A : Hd) (p : Addr) (n : Nat), KnS K σ A.k δ → σ[i]? = some (some (.ref p)) → Tn A p n → n + m ≤ 100000 →
  ∀ Q : VK, (∀ v d B, Pm p A B → Tn B p (n + m) → S d → Da K B.k v d → Q v B.h) → te σ A.h Q
def EvMA (K : PySem.W.Frag) (ta : TA) (δ : De) (i m : Nat) (S : List PyData → Prop) : Prop := ∀ (σ : L2.St) (A : Hd) (p : Addr) (n : Nat), KnS K σ A.k δ → σ[i]? = some (some (.ref p)) → Tn A p n → n + m ≤ 100000 →
  ∀ Q : List V → Hp → Prop, (∀ vs ds B, Pm p A B → Tn B p (n + m) → S ds → DaAll K B.k vs ds → Q vs B.h) → ta σ A.h Q
/-- the promise of a def that draws: its first argument is the tin -/
def spT (K : PySem.W.Frag) (m : Nat) (Pre : List PyData → Prop) (R : List PyData → PyData → Prop) : Sp := fun vs H Q _ => ∃ (A : Hd) (p : Addr) (n : Nat) (ws : List V) (ds : List PyData), A.h = H ∧ vs = .ref p :: ws ∧ Tn A p n ∧ n + m ≤ 100000 ∧ DaAll K A.k ws ds ∧ Pre ds ∧
  ∀ v d B, Pm p A B → Tn B p (n + m) → R ds d → Da K B.k v d → Q v B.h
variable {δ : De} {i m1 m2 : Nat} {te ta tb : TE} {tA tB : TA} {S S1 S2 : PyData → Prop} {d : PyData} {ds : List PyData} {SA : List PyData → Prop}
theorem m_pure (h : EvD K te δ d) : EvM K te δ i 0 (fun x => x = d) := fun σ A p n k _ t _ Q q => h σ A k Q fun v B e hv => q v d B e.pm (t.pr e) rfl hv
theorem m_nil : EvMA K tNil δ i 0 (fun ds => ds = []) := fun _ A _ _ _ _ t _ _ q => q [] [] A (Pm.refl A) t rfl .nil
theorem m_cons (h1 : EvM K te δ i m1 S) (h2 : EvMA K tA δ i m2 SA) : EvMA K (tCons te tA) δ i (m1 + m2) (fun ds => ∃ x xs, ds = x :: xs ∧ S x ∧ SA xs) := fun σ A p n k s t hn Q q =>
  h1 σ A p n k s t (by omega) _ fun v x B e1 t1 s1 hv => h2 σ B p (n + m1) (k.ex e1.k) s t1 (by omega) _ fun vs xs C e2 t2 s2 hvs => q (v :: vs) (x :: xs) C (e1.trans e2) (by rw [← Nat.add_assoc]; exact t2) ⟨x, xs, rfl, s1, s2⟩ (.cons (hv.ex e2.k) hvs)
theorem m_imp (h : EvM K te δ i m S) (hs : ∀ d, S d → S1 d) : EvM K te δ i m S1 := fun σ A p n k s t hn Q q => h σ A p n k s t hn Q fun v d B e t1 s1 hv => q v d B e t1 (hs d s1) hv
theorem m_op {r : R2} (h1 : EvM K ta δ i m1 S1) (h2 : EvM K tb δ i m2 S2) (hr : ∀ x y, S1 x → S2 y → ∃ z, S z ∧ RD K r x y z) : EvM K (tOp r ta tb) δ i (m1 + m2) S := fun σ A p n k s t hn Q q =>
  h1 σ A p n k s t (by omega) _ fun v x B e1 t1 s1 hv => h2 σ B p (n + m1) (k.ex e1.k) s t1 (by omega) _ fun w y C e2 t2 s2 hw => by
    obtain ⟨z, hz, h⟩ := hr x y s1 s2
    exact h C v w (hv.ex e2.k) hw _ fun u D e3 hu => q u z D ((e1.trans e2).trans e3.pm) (by rw [← Nat.add_assoc]; exact t2.pr e3) hz hu
/-- a call of a pure def, of a built-in -/
theorem m_call {R : List PyData → PyData → Prop} (h : EvMA K tA δ i m SA) (hr : ∀ ds, SA ds → ∃ z, S z ∧ R ds z) : EvM K (tCall (spD K R) [] E0 tA) δ i m S := fun σ A p n k s t hn Q q =>
  h σ A p n k s t hn _ fun vs ds B e1 t1 s1 hv => by
    obtain ⟨z, hz, hR⟩ := hr ds s1
    exact ⟨B, ds, z, rfl, by rw [List.append_nil]; exact hv, hR, fun v C e2 h2 => q v z C (e1.trans e2.pm) (t1.pr e2) hz h2⟩
theorem m_cb {r : List V → Hp → VK → Prop} (h : EvMA K tA δ i m SA) (hr : ∀ ds, SA ds → ∃ z, S z ∧ RDC K r ds z) : EvM K (tCB r tA) δ i m S := fun σ A p n k s t hn Q q =>
  h σ A p n k s t hn _ fun vs ds B e1 t1 s1 hv => by
    obtain ⟨z, hz, hR⟩ := hr ds s1
    exact hR B vs hv Q fun u C e2 h2 => q u z C (e1.trans e2.pm) (t1.pr e2) hz h2
/-- a call of a def that draws, its other arguments pure -/
theorem m_draw {Pre : List PyData → Prop} {R : List PyData → PyData → Prop} (h : EvDA K tA δ ds) (hp : Pre ds) : EvM K (tCall (spT K m Pre R) [] E0 (tCons (tVar i) tA)) δ i m (R ds) := fun σ A p n k s t hn Q q =>
  ⟨_, s, h σ A k _ fun ws B e1 hw => ⟨B, p, n, ws, ds, rfl, by rw [List.append_nil], t.pr e1, hn, hw, hp, fun v d C e2 t2 r2 hv => q v d C (e1.pm.trans e2) t2 r2 hv⟩⟩
theorem m_lst (h : EvMA K tA δ i m SA) (hl : ∀ ds, SA ds → ds.length ≤ 100000) : EvM K (tLst tA) δ i m (fun d => ∃ ds, d = .list ds ∧ SA ds) := fun σ A p n k s t hn Q q =>
  h σ A p n k s t hn _ fun vs ds B e1 t1 s1 hv => ⟨by rw [hv.len]; exact sz_of (hl ds s1), fun l hl => q _ _ (B.new l _ hl) (e1.trans (B.pr hl).pm) (t1.pr (B.pr hl)) ⟨ds, rfl, s1⟩ (.lst (B.at hl) (hv.ex (B.pr hl).k))⟩
/-- the list of a comprehension whose parts are drawn; not yet known -/
theorem lc_draw {wi : TI} {g : TG} {vs : List Nat} {N : Nat} {ε : Nat → List (Nat × PyData)} {σ : L2.St} {Q : VK} {Sj : Nat → PyData → Prop} (hs : SrcD K wi g δ N ε) (hN : N ≤ 1000) (hv : ∀ j, ∀ p ∈ ε j, p.1 ∈ vs) (hi : i ∉ vs)
    (he : ∀ j, j < N → EvM K te (sets (wipeD δ vs) (ε j)) i m (Sj j)) (k : KnS K σ A.k δ) (s : σ[i]? = some (some (.ref p))) (t : Tn A p n) (hn : n + N * m ≤ 100000)
    (q : ∀ (C : Hd) (Dl : Addr) (xs : List V) (ds : List PyData), Pm p A C → Tn C p (n + N * m) → A.h Dl = none → Dl ≠ p → C.k Dl = none → C.h Dl = some (.lst xs) → DaAll K C.k xs ds → ds.length = N → (∀ j, j < N → Sj j (ds.getD j .none)) → Q (.ref Dl) C.h) :
    tLc wi g tYes te vs σ A.h Q :=
  hs σ A k _ fun J B e1 hgo hstop hyld Dl hD => by
    have hDk : B.k Dl = none := B.kn hD
    have tB := t.pr e1
    have hDp : Dl ≠ p := fun z => by
      subst z
      exact tB.there hD
    have nj : ∀ j, j ≤ N → j * m ≤ N * m := fun j hj => Nat.mul_le_mul_right m hj
    refine ⟨fun j r H' => r = N - j ∧ j ≤ N ∧ ∃ (C : Hd) (xs : List V) (ds : List PyData), C.h = H' ∧ Ex B.k C.k ∧ (∀ q o, q ≠ p → B.h q = some o → C.h q = some o) ∧ (∀ q, B.k q = none → B.h q ≠ none → C.k q = none) ∧ Tn C p (n + j * m) ∧ C.k Dl = none ∧
      C.h Dl = some (.lst xs) ∧ DaAll K C.k xs ds ∧ ds.length = j ∧ (∀ l, l < j → Sj l (ds.getD l .none)), ⟨N, by simp, Nat.zero_le _, B.mut Dl _ hDk, [], [], rfl, Ex.refl _, fun q o _ h => Ex.new hD q o h, fun _ h _ => h, ?_, hDk, upd_same, .nil, rfl, fun l h => absurd h (Nat.not_lt_zero l)⟩, ?_⟩
    · refine ⟨tB.nk, ?_⟩
      obtain ⟨x, y, z, h1, h2, h3⟩ := tB.st
      exact ⟨x, y, z, h1, by omega, by show upd B.h Dl _ p = _; rw [upd_ne (Ne.symm hDp)]; exact h3⟩
    rintro j r H' ⟨rfl, hj, C, xs, ds, rfl, x1, x2, x3, tC, hD0, hL, hA, hl, hS⟩
    by_cases hlt : j < N
    · refine .inr ⟨hgo j C hlt x1, fun H2 => j + 1 ≤ N ∧ ∃ (C : Hd) (xs : List V) (ds : List PyData), C.h = H2 ∧ Ex B.k C.k ∧ (∀ q o, q ≠ p → B.h q = some o → C.h q = some o) ∧ (∀ q, B.k q = none → B.h q ≠ none → C.k q = none) ∧ Tn C p (n + (j + 1) * m) ∧ C.k Dl = none ∧
        C.h Dl = some (.lst xs) ∧ DaAll K C.k xs ds ∧ ds.length = j + 1 ∧ (∀ l, l < j + 1 → Sj l (ds.getD l .none)), fun H2 p => ⟨N - (j + 1), by omega, rfl, p⟩, fun x H'' y => ?_⟩
      obtain ⟨C2, rfl, c2, tg⟩ := hyld j C x H'' hlt x1 y
      have some_ne : C.h Dl ≠ none := fun z => by rw [hL] at z; cases z
      refine tg (wipe σ vs) (wipeD δ vs) ((k.ex (e1.k.trans x1)).wipe vs) _ fun σ2 k2 hw => ⟨(hw vs (hv j)).trans (wipe_wipe σ vs), ?_⟩
      have hs2 : σ2[i]? = some (some (.ref p)) := (wipe_at ((hw vs (hv j)).trans (wipe_wipe σ vs)) hi).trans s
      have t2 := tC.pr c2
      have nj1 := nj (j + 1) (by omega)
      have e9 : n + j * m + m = n + (j + 1) * m := by rw [Nat.succ_mul]; omega
      show te σ2 C2.h fun y H4 => ∃ acc, H4 Dl = some (.lst acc) ∧ acc.length < sizeLine ∧ _
      refine he j hlt σ2 C2 p (n + j * m) k2 hs2 t2 (by omega) _ fun v d C4 c4 t4 s4 h4 => ?_
      have hL4 : C4.h Dl = some (.lst xs) := c4.h _ _ hDp (c2.h _ _ hL)
      have hD4 : C4.k Dl = none := c4.fr Dl (c2.fr Dl hD0 some_ne) (there_ne c2.h some_ne)
      have hA4 := (hA.ex c2.k).ex c4.k
      refine ⟨xs, hL4, sz_lt (by rw [hA.len]; omega), by omega, C4.mut Dl _ hD4, xs ++ [v], ds ++ [d], rfl, (x1.trans c2.k).trans c4.k, ?_, ?_, ?_, hD4, upd_same, hA4.app (.cons h4 .nil), by rw [List.length_append, hl]; rfl, ?_⟩
      · intro q o hq hB
        have hqD : q ≠ Dl := fun z => by
          rw [z, hD] at hB
          cases hB
        show upd C4.h Dl _ q = some o
        rw [upd_ne hqD]
        exact c4.h q o hq (c2.h _ _ (x2 q o hq hB))
      · intro q h1 h2
        have hC : C.h q ≠ none := by
          by_cases z : q = p
          · subst z
            exact tC.there
          · cases ho : B.h q with
            | none => exact absurd ho h2
            | some o =>
              rw [x2 q o z ho]
              exact fun z => nomatch z
        exact c4.fr q (c2.fr q (x3 q h1 h2) hC) (there_ne c2.h hC)
      · rw [e9] at t4
        refine ⟨t4.nk, ?_⟩
        obtain ⟨x, y, z, h1, h2, h3⟩ := t4.st
        exact ⟨x, y, z, h1, h2, by show upd C4.h Dl _ p = _; rw [upd_ne (Ne.symm hDp)]; exact h3⟩
      · intro l hl2
        by_cases hlj : l < j
        · rw [List.getD_eq_getElem?_getD, List.getElem?_append_left (by omega), ← List.getD_eq_getElem?_getD]
          exact hS l hlj
        · obtain rfl : l = j := by omega
          rw [List.getD_eq_getElem?_getD, List.getElem?_append_right (by omega), hl, Nat.sub_self]
          exact s4
    · have e : j = N := by omega
      subst e
      refine .inl ⟨hstop C x1, ?_⟩
      refine q C Dl xs ds ⟨e1.k.trans x1, fun a o h1 h2 => x2 a o h1 (e1.h _ _ h2), fun a h1 h2 => x3 a (e1.fr a h1 h2) (there_ne e1.h h2), fun _ => tC.there⟩ tC (fresh_back e1.h hD) hDp hD0 hL hA hl hS
/-- .. known from now on -/
theorem m_lc {wi : TI} {g : TG} {vs : List Nat} {N : Nat} {ε : Nat → List (Nat × PyData)} {Sj : Nat → PyData → Prop} (hs : SrcD K wi g δ N ε) (hN : N ≤ 1000) (hv : ∀ j, ∀ p ∈ ε j, p.1 ∈ vs) (hi : i ∉ vs)
    (he : ∀ j, j < N → EvM K te (sets (wipeD δ vs) (ε j)) i m (Sj j)) : EvM K (tLc wi g tYes te vs) δ i (N * m) (fun d => ∃ ds, d = .list ds ∧ ds.length = N ∧ ∀ j, j < N → Sj j (ds.getD j .none)) := fun σ A p n k s t hn Q q =>
  lc_draw hs hN hv hi he k s t hn fun C Dl xs ds e tC hD0 hDp hDk hL hA hl hS => by
    refine q (.ref Dl) (.list ds) (C.learn Dl _ hL) ⟨e.k.trans (Ex.new hDk), e.h, fun a h1 h2 => ?_, e.pp⟩ ⟨?_, tC.st⟩ ⟨ds, rfl, hl, hS⟩ (.lst (learn_at hL) (hA.ex (Ex.new hDk)))
    · have ne : a ≠ Dl := fun z => by
        rw [z] at h2
        exact h2 hD0
      show upd C.k Dl _ a = none
      rw [upd_ne ne]
      exact e.fr a h1 h2
    · show upd C.k Dl _ p = none
      rw [upd_ne (Ne.symm hDp)]
      exact tC.nk
end
end Lo
/-! A11: inside of a def that draws. -/
namespace Lo
open PySem PySem.Spec L2 Evl PyProof.Rows

/-- from A, where the tin is not known, to C, where it is -/
structure Pk (p : Addr) (A C : Hd) : Prop where
  nk : A.k p = none
  k : Ex A.k C.k
  h : ∀ q o, q ≠ p → A.h q = some o → C.h q = some o
  fr : ∀ q, q ≠ p → A.k q = none → A.h q ≠ none → C.k q = none
  at_ : C.k p ≠ none
section
variable {K : PySem.W.Frag} {A B C : Hd} {p : Addr} {σ : L2.St} {δ : De} {ns : List Int} {te : TE} {tt : TT} {t u : TS} {D : Ends}
theorem Pk.learn {o : HO} (hp : A.h p = some o) (nk : A.k p = none) : Pk p A (A.learn p o hp) := by
  refine ⟨nk, Ex.new nk, fun q o _ h => h, fun q h1 h2 _ => ?_, fun z => ?_⟩
  · show upd A.k p _ q = none
    rw [upd_ne h1]
    exact h2
  · rw [learn_at hp] at z
    cases z
theorem Pk.pr (a : Pk p A B) (e : Pr B C) : Pk p A C := by
  refine ⟨a.nk, a.k.trans e.k, fun q o h1 h2 => e.h q o (a.h q o h1 h2), fun q h1 h2 h3 => e.fr q (a.fr q h1 h2 h3) ?_, there_ne e.k a.at_⟩
  cases ho : A.h q with
  | none => exact absurd ho h3
  | some o =>
    rw [a.h q o h1 ho]
    exact fun z => nomatch z
theorem Pk.fin (a : Pk p A C) : Pm p A (C.forget p) := by
  have nk := a.nk
  refine ⟨fun q o hq => ?_, a.h, fun q h1 h2 => ?_, fun _ z => ?_⟩
  · have ne : q ≠ p := fun z => by
      rw [z, nk] at hq
      cases hq
    rw [forget_ne ne]
    exact a.k q o hq
  · by_cases z : q = p
    · rw [z]
      exact forget_at
    · rw [forget_ne z]
      exact a.fr q z h1 h2
  · cases ho : C.k p with
    | none => exact a.at_ ho
    | some o =>
      have z2 : C.h p = none := z
      rw [C.ex p o ho] at z2
      cases z2
theorem KnS.swap0 {H H' : Hp} {ds : List PyData} {xs : List V} (kn : KnS K σ H δ) (s0 : σ[0]? = some (some (.ref p))) (h' : H' p = some (.lst xs)) (ha : DaAll K H' xs ds) (hi : ∀ i d, i ≠ 0 → δ[i]? = some (some d) → ∃ j, d = .int j) :
    KnS K σ H' (δ.set 0 (some (.list ds))) := by
  refine ⟨by rw [List.length_set]; exact kn.1, fun i d h => ?_⟩
  by_cases e : i = 0
  · subst e
    rw [List.getElem?_set] at h
    rw [if_pos rfl] at h
    split at h
    · cases h
      exact ⟨_, s0, .lst h' ha⟩
    · cases h
  · rw [List.getElem?_set_ne (Ne.symm e)] at h
    obtain ⟨v, h1, h2⟩ := kn.2 i d h
    obtain ⟨j, rfl⟩ := hi i d e h
    cases h2
    exact ⟨_, h1, .int j⟩
theorem ifT_i (h : EvB K tt δ true) (kn : KnS K σ A.k δ) (q : ∀ B, Pr A B → t D σ B.h) : tIfS tt t u D σ A.h := h σ A kn _ fun B e => iteT (q B e)
theorem ifF_i (h : EvB K tt δ false) (kn : KnS K σ A.k δ) (q : ∀ B, Pr A B → u D σ B.h) : tIfS tt t u D σ A.h := h σ A kn _ fun B e => iteF (q B e)
/-- tin[j] = number -/
theorem tin_set {j : Nat} {i : Int} (kn : KnS K σ B.k δ) (s0 : σ[0]? = some (some (.ref p))) (a : Pk p A B) (hk : B.k p = some (.lst (ns.map V.int))) (hint : ∀ l d, l ≠ 0 → δ[l]? = some (some d) → ∃ j, d = .int j) (h : EvD K te δ (.int i)) (hj : j < ns.length)
    (q : ∀ C : Hd, KnS K σ C.k (δ.set 0 (some (li (ns.set j i)))) → Pk p A C → C.k p = some (.lst ((ns.set j i).map V.int)) → D.nx σ C.h) : tAsg te (gSub (tVar 0) (tC (.int (j : Int))) rSetL) D σ B.h := by
  refine asg_i (h σ B kn _ fun v B1 e1 hv => ?_)
  cases hv
  have hk1 : B1.k p = some (.lst (ns.map V.int)) := e1.k _ _ hk
  refine ⟨_, s0, p, _, _, j, rfl, rfl, B1.ex _ _ hk1, ?_, ?_⟩
  · unfold ixN
    rw [if_pos (by omega), if_pos (by rw [List.length_map]; omega), Int.toNat_natCast]
  · rw [map_set_int]
    let C : Hd := ⟨upd B1.k p (.lst ((ns.set j i).map V.int)), upd B1.h p (.lst ((ns.set j i).map V.int)), fun a u e => by
      by_cases z : a = p
      · subst z
        rw [upd_same] at e ⊢
        exact e
      · rw [upd_ne z] at e ⊢
        exact B1.ex a u e⟩
    have ck : C.k p = some (.lst ((ns.set j i).map V.int)) := upd_same
    have a1 := a.pr e1
    refine q C ((kn.ex e1.k).swap0 s0 ck (DaAll.ints _) hint) ⟨a.nk, fun q o hq => ?_, fun q o h1 h2 => ?_, fun q h1 h2 h3 => ?_, fun z => by rw [ck] at z; cases z⟩ ck
    · by_cases z : q = p
      · subst z
        rw [a.nk] at hq
        cases hq
      · show upd B1.k p _ q = _
        rw [upd_ne z]
        exact a1.k q o hq
    · show upd B1.h p _ q = _
      rw [upd_ne h1]
      exact a1.h q o h1 h2
    · show upd B1.k p _ q = _
      rw [upd_ne h1]
      exact a1.fr q h1 h2 h3
end
end Lo
/-! E10: the law's draws: take, of. -/
namespace Lo
open PySem PySem.Spec L2 Evl PyProof.Rows

section
variable {P : Program} {w : World} {K : PySem.W.Frag} {mg : Str → Option Value} {base : Heap}
theorem rd_l0 {x y z : Int} : RD K (rIxL K) (li [x, y, z]) (.int 0) (.int x) := rd_ixL rfl
theorem rd_l1 {x y z : Int} : RD K (rIxL K) (li [x, y, z]) (.int 1) (.int y) := rd_ixL rfl
theorem rd_l2 {x y z : Int} : RD K (rIxL K) (li [x, y, z]) (.int 2) (.int z) := rd_ixL rfl
def PTake (ds : List PyData) : Prop := ∃ b : Int, 1 ≤ b ∧ b ≤ 5000 ∧ ds = [.int b]
def RTake (ds : List PyData) (d : PyData) : Prop := ∃ b j : Int, ds = [.int b] ∧ 0 ≤ j ∧ j < b ∧ d = .int j
theorem ok_law_take (F : FunM K mg "_law_take" sLawTake) (T : Blt mg) : Dfn P w K mg base CX0 1 "_law_take" ["_law_tin", "_law_below_so"] (spT K 1 PTake RTake) := by
  refine dfn_raw F scLawTake (fun _ _ _ _ _ _ us hl => match us, hl with | [_, _], _ => rfl) (fun vs H Q E h => ?_) ?_
  · obtain ⟨A, p, n, ws, ds, _, rfl, _, _, ha, ⟨b, _, _, rfl⟩, _⟩ := h
    rw [List.length_cons, ha.len]
    rfl
  intro f cdv A outer s H vs Q E hr h
  obtain ⟨A0, p, n, ws, ds, rfl, rfl, tn, hn, ha, ⟨b, b1, b2, rfl⟩, q⟩ := h
  refine ⟨_, pss_cons (ps_if (pt_cmpR op_gt (pe_ix ix_list (pv 0) pe_int (fun _ _ => rfl)) pe_int (nomark _)) (pss_cons (ps_set (i := 2) scLawTake.nd rfl (Or.inl rfl) (pe_op op_mod (pInt T (pe_ix ix_list (pv 0) pe_int (fun _ _ => rfl))) (pv 1)))
      (pss_cons (ps_asg (pe_op op_fdiv (pe_ix ix_list (pv 0) pe_int (fun _ _ => rfl)) (pv 1)) (pg_sub (pv 0) pe_int set_list)) (pss_one (ps_ret (pv 2))))) pss_nil)
    (pss_cons (ps_asg (pe_op op_add (pe_ix ix_list (pv 0) pe_int (fun _ _ => rfl)) pe_int) (pg_sub (pv 0) pe_int set_list))
    (pss_cons (ps_set (i := 3) scLawTake.nd rfl (Or.inl rfl) (pe_op op_mod (pInt T (pe_op op_mul (pe_op op_add (pe_ix ix_list (pv 0) pe_int (fun _ _ => rfl)) (pe_op op_mul pe_int (pe_ix ix_list (pv 0) pe_int (fun _ _ => rfl)))) (pe_op op_add pe_int (pe_ix ix_list (pv 0) pe_int (fun _ _ => rfl))))) pe_int))
    (pss_cons (ps_set (i := 4) scLawTake.nd rfl (Or.inl rfl) (pe_op op_add (pe_op op_mod (pInt T (pv 3)) pe_int) pe_int))
    (pss_cons (ps_set (i := 5) scLawTake.nd rfl (Or.inl rfl) (pe_op op_mod (pInt T (pe_op op_mul (pe_op op_add (pe_op op_add (pv 3) (pe_ix ix_list (pv 0) pe_int (fun _ _ => rfl))) (pe_op op_fdiv (pe_ix ix_list (pv 0) pe_int (fun _ _ => rfl)) pe_int)) (pv 4))) pe_int))
    (pss_one (ps_ret (pe_op op_mod (pInt T (pe_op op_fdiv (pe_op op_mod (pInt T (pe_op op_add (pe_op op_mul (pv 5) pe_int) (pv 3))) pe_int) pe_int)) (pv 1)))))))), ?_⟩
  obtain ⟨x, y, z, hz0, hzn, hp⟩ := tn.st
  obtain ⟨v1, rfl, hv1⟩ := ha.one
  cases hv1
  have hk : (A0.learn p _ hp).k p = some (.lst (([x, y, z] : List Int).map V.int)) := learn_at hp
  have pk : Pk p A0 (A0.learn p _ hp) := Pk.learn hp tn.nk
  have kn : KnS K (L2.start nLawTake [.ref p, .int b]) (A0.learn p _ hp).k [some (li [x, y, z]), some (.int b), none, none, none, none] := KnS.start (.cons (.lst hk (DaAll.ints _)) (.cons (.int b) .nil))
  have s0 : (L2.start nLawTake [.ref p, .int b])[0]? = some (some (.ref p)) := rfl
  have bpos : 0 < b := by omega
  have fin : ∀ (C : Hd) (ns : List Int) (z2 : Int) (j : Int), Pk p A0 C → C.k p = some (.lst (ns.map V.int)) → ns = [ns.getD 0 0, ns.getD 1 0, z2] → 0 ≤ z2 → z2 ≤ n + 1 → 0 ≤ j → j < b → Q (.int j) C.h := fun C ns z2 j a c e h1 h2 h3 h4 => by
    refine q (.int j) (.int j) (C.forget p) a.fin ⟨forget_at, ns.getD 0 0, ns.getD 1 0, z2, h1, h2, ?_⟩ ⟨b, j, rfl, h3, h4, rfl⟩ (.int j)
    show C.h p = _
    rw [C.ex _ _ c, e]
    rfl
  -- the test
  have test : EvB K _ [some (li [x, y, z]), some (.int b), none, none, none, none] (decide (0 < x)) := b_test (d_op (d_op (d_var (i := 0) rfl) (d_int (i := 0)) rd_l0) (d_int (i := 0)) (rd_cmp (f := fun i j => decide (j < i))))
  by_cases hx : 0 < x
  · rw [decide_eq_true hx] at test
    refine seq_i (ifT_i (A := A0.learn p _ hp) test kn fun B e => ?_)
    -- draw = tin[0] % below
    have evd : EvD K _ [some (li [x, y, z]), some (.int b), none, none, none, none] (.int (x % b)) := d_op (d_cb (da_cons (d_op (d_var (i := 0) rfl) (d_int (i := 0)) rd_l0) da_nil) rc_int) (d_var (i := 1) rfl) (rd_intC (f := fun i j => i % j) (C := fun _ j => 0 < j) bpos)
    refine seq_i (asg_i (evd _ B (kn.ex e.k) _ fun v B1 e1 hv => ?_))
    cases hv
    have kn1 := ((kn.ex e.k).ex e1.k).set (i := 2) (Da.int (K := K) (H := B1.k) (x % b))
    refine seq_i (tin_set (ns := [x, y, z]) (j := 0) (i := x / b) kn1 rfl ((pk.pr e).pr e1) ((e.trans e1).k _ _ hk) ?_ (d_op (d_op (d_var (i := 0) rfl) d_int rd_l0) (d_var (i := 1) rfl) (rd_intC (C := CDiv) ⟨bpos, by omega⟩)) (by show 0 < 3; decide) fun C kn2 a2 c2 => ?_)
    · intro l d hl hd
      rcases l with _ | _ | _ | _ | _ | _ | l
      · exact absurd rfl hl
      · exact ⟨b, (Option.some.inj (Option.some.inj hd)).symm⟩
      · exact ⟨x % b, (Option.some.inj (Option.some.inj hd)).symm⟩
      all_goals cases hd
    · exact ⟨.int (x % b), rfl, fin C _ z (x % b) a2 c2 rfl hz0 (by omega) (Int.emod_nonneg _ (by omega)) (Int.emod_lt_of_pos _ bpos)⟩
  · rw [decide_eq_false hx] at test
    refine seq_i (ifF_i (A := A0.learn p _ hp) test kn fun B e => ?_)
    show tSeq _ _ _ _ B.h
    refine seq_i (tin_set (ns := [x, y, z]) (j := 2) (i := z + 1) (kn.ex e.k) rfl (pk.pr e) (e.k _ _ hk) ?_ (d_op (d_op (d_var (i := 0) rfl) d_int rd_l2) d_int rd_int) (by show 2 < 3; decide) fun C kn2 a2 c2 => ?_)
    · intro l d hl hd
      rcases l with _ | _ | _ | _ | _ | _ | l
      · exact absurd rfl hl
      · exact ⟨b, (Option.some.inj (Option.some.inj hd)).symm⟩
      all_goals cases hd
    · have c2' : C.k p = some (.lst (([x, y, z + 1] : List Int).map V.int)) := c2
      have m1 : (0 : Int) < 2147483647 := by decide
      have m2 : (0 : Int) < 40009 := by decide
      have m3 : (0 : Int) < 2147483629 := by decide
      have m4 : (0 : Int) < 2147483587 := by decide
      let once : Int := ((y + 48271 * (z + 1)) * (39373 + (z + 1))) % 2147483647
      let wide : Int := once % 40009 + 7
      let twice : Int := ((once + (z + 1) + y / 1000003) * wide) % 2147483629
      have w1 : 0 ≤ once % 40009 := Int.emod_nonneg _ (by decide)
      have w2 : once % 40009 < 40009 := Int.emod_lt_of_pos _ m2
      have tail : StD K _ [some (li [x, y, z + 1]), some (.int b), none, none, none, none] (.ret (.int (((twice * 48271 + once) % 2147483587 / 64) % b))) :=
        s_seq (s_set (n := 3) (d := .int once) (d_op (d_cb (da_cons (d_op (d_op (d_op (d_var (i := 0) rfl) (d_int (i := 1)) rd_l1) (d_op (d_int (i := 48271)) (d_op (d_var (i := 0) rfl) (d_int (i := 2)) rd_l2) (rd_intC (C := CMul) (f := fun i j => i * j) (.inl ⟨by decide, by decide⟩))) (rd_int (f := fun i j => i + j)))
            (d_op (d_int (i := 39373)) (d_op (d_var (i := 0) rfl) (d_int (i := 2)) rd_l2) (rd_int (f := fun i j => i + j))) (rd_intC (C := CMul) (f := fun i j => i * j) (.inr ⟨by omega, by omega⟩))) da_nil) rc_int) (d_int (i := 2147483647)) (rd_intC (C := fun _ j => 0 < j) (f := fun i j => i % j) m1)))
        (s_seq (s_set (n := 4) (d := .int wide) (d_op (d_op (d_cb (da_cons (d_var (i := 3) rfl) da_nil) rc_int) (d_int (i := 40009)) (rd_intC (C := fun _ j => 0 < j) (f := fun i j => i % j) m2)) (d_int (i := 7)) (rd_int (f := fun i j => i + j))))
        (s_seq (s_set (n := 5) (d := .int twice) (d_op (d_cb (da_cons (d_op (d_op (d_op (d_var (i := 3) rfl) (d_op (d_var (i := 0) rfl) (d_int (i := 2)) rd_l2) (rd_int (f := fun i j => i + j))) (d_op (d_op (d_var (i := 0) rfl) (d_int (i := 1)) rd_l1) (d_int (i := 1000003)) (rd_intC (C := CDiv) (f := fun i j => i / j) ⟨by decide, by decide⟩)) (rd_int (f := fun i j => i + j)))
            (d_var (i := 4) rfl) (rd_intC (C := CMul) (f := fun i j => i * j) (.inr ⟨by show _ < once % 40009 + 7; omega, by show once % 40009 + 7 < _; omega⟩))) da_nil) rc_int) (d_int (i := 2147483629)) (rd_intC (C := fun _ j => 0 < j) (f := fun i j => i % j) m3)))
        (s_ret (d_op (d_cb (da_cons (d_op (d_op (d_cb (da_cons (d_op (d_op (d_var (i := 5) rfl) (d_int (i := 48271)) (rd_intC (C := CMul) (f := fun i j => i * j) (.inr ⟨by decide, by decide⟩))) (d_var (i := 3) rfl) (rd_int (f := fun i j => i + j))) da_nil) rc_int) (d_int (i := 2147483587)) (rd_intC (C := fun _ j => 0 < j) (f := fun i j => i % j) m4)) (d_int (i := 64)) (rd_intC (C := CDiv) (f := fun i j => i / j) ⟨by decide, by decide⟩)) da_nil) rc_int)
          (d_var (i := 1) rfl) (rd_intC (C := fun _ j => 0 < j) (f := fun i j => i % j) bpos)))))
      refine tail _ C kn2 _ fun v B3 e3 hv => ?_
      cases hv
      exact fin B3 [x, y, z + 1] (z + 1) _ (a2.pr e3) (e3.k _ _ c2') rfl (by omega) (by omega) (Int.emod_nonneg _ (by omega)) (Int.emod_lt_of_pos _ bpos)
theorem KnS.startT {H : Hp} {N : List Str} {v : V} {ws : List V} {ds : List PyData} (h : DaAll K H ws ds) : KnS K (L2.start N (v :: ws)) H (none :: (ds.map some ++ List.replicate (N.length - (ds.length + 1)) none)) := by
  have hl := h.len
  refine ⟨?_, fun i d hi => ?_⟩
  · unfold L2.start
    simp only [List.length_append, List.length_cons, List.length_map, List.length_replicate, hl]
    omega
  · rcases i with _ | i
    · cases hi
    · rw [List.getElem?_cons_succ] at hi
      by_cases hlt : i < ds.length
      · rw [List.getElem?_append_left (by rw [List.length_map]; exact hlt), List.getElem?_map] at hi
        have hi2 : ds[i]? = some d := by
          cases e : ds[i]? with
          | none => rw [e] at hi; cases hi
          | some x => rw [e] at hi; exact Option.some.inj hi
        obtain ⟨u, h1, h2⟩ := h.at hi2
        refine ⟨u, ?_, h2⟩
        unfold L2.start
        rw [List.getElem?_append_left (by rw [List.length_map, List.length_cons, hl]; omega), List.map_cons, List.getElem?_cons_succ, List.getElem?_map, h1] <;> rfl
      · rw [List.getElem?_append_right (by rw [List.length_map]; omega), List.getElem?_replicate] at hi
        split at hi <;> cases hi
def POf (ds : List PyData) : Prop := ∃ gs : List PyData, 1 ≤ gs.length ∧ gs.length ≤ 5000 ∧ ds = [.list gs]
def ROf (ds : List PyData) (d : PyData) : Prop := ∃ gs : List PyData, ds = [.list gs] ∧ d ∈ gs
theorem ok_law_of (F : FunM K mg "_law_of" sLawOf) (T : Blt mg) (G : Dfn P w K mg base CX0 1 "_law_take" ["_law_tin", "_law_below_so"] (spT K 1 PTake RTake)) : Dfn P w K mg base CX0 2 "_law_of" ["_law_tin", "_law_goods_so"] (spT K 1 POf ROf) := by
  refine dfn_raw F scLawOf (fun _ _ _ _ _ _ us hl => match us, hl with | [_, _], _ => rfl) (fun vs H Q E h => ?_) ?_
  · obtain ⟨A, p, n, ws, ds, _, rfl, _, _, ha, ⟨b, _, _, rfl⟩, _⟩ := h
    rw [List.length_cons, ha.len]
    rfl
  intro f cdv A outer s H vs Q E hr h
  obtain ⟨A0, p, n, ws, ds, rfl, rfl, tn, hn, ha, ⟨gs, g1, g2, rfl⟩, q⟩ := h
  refine ⟨_, pss_one (ps_ret (pe_ix ix_list (pv 1) (pc G hr (pa_cons (pv 0) (pa_cons (pLen T (pv 1)) pa_nil))) (fun _ _ => rfl))), ?_⟩
  have kn := KnS.startT (N := nLawOf) (v := .ref p) ha
  refine m_op (K := K) (δ := [none, some (.list gs)]) (i := 0) (S := fun d => d ∈ gs) (m_pure (d_var rfl)) (m_draw (Pre := PTake) (R := RTake) (da_cons (d_cb (da_cons (d_var rfl) da_nil) rc_lenL) da_nil) ⟨(gs.length : Nat), by omega, by omega, rfl⟩) ?_ _ A0 p n kn rfl tn (by omega) Q fun v d B e t1 hd hv => q v d B e (by rw [Nat.zero_add] at t1; exact t1) ⟨gs, rfl, hd⟩ hv
  rintro x y rfl ⟨b, j, e, h0, h1, rfl⟩
  have eb : b = (gs.length : Nat) := by
    have := (List.cons.inj e).1
    exact (PyData.int.inj this).symm
  have hj : j.toNat < gs.length := by omega
  refine ⟨gs.getD j.toNat .none, ?_, ?_⟩
  · rw [List.getD_eq_getElem?_getD, List.getElem?_eq_getElem hj]
    exact List.getElem_mem hj
  · have ej : j = ((j.toNat : Nat) : Int) := by omega
    refine rd_ixL ?_
    rw [ej]
    refine atI_nat ?_
    rw [Int.toNat_natCast, List.getD_eq_getElem?_getD, List.getElem?_eq_getElem hj]
    rfl
end
end Lo
/-! E11: the law's cells, box. -/
namespace Lo
open PySem PySem.Spec L2 Evl PyProof.Rows

section
variable {P : Program} {w : World} {K : PySem.W.Frag} {mg : Str → Option Value} {base : Heap}
theorem ite01 (b : Bool) : -(2 ^ 64) < (if b = true then (1 : Int) else 0) ∧ (if b = true then (1 : Int) else 0) < 2 ^ 64 := by cases b <;> decide
def boxX (c : Int) : Int := absI c * (if decide ((10 : Int) ^ (18 : Nat) ≤ absI c) = true then 1 else 0)
def boxL (c : Int) : List Int := [boxX c, c % 2305843009213693951 + 39373 * 0 + 11397, 0]
def RBox (ds : List PyData) (d : PyData) : Prop := ∃ c : Int, ds = [li [c], .int 0] ∧ d = li (boxL c)
theorem ok_law_box (F : FunM K mg "_law_box" sLawBox) (T : Blt mg) : Dfn P w K mg base CX0 1 "_law_box" ["_law_script", "_law_k"] (spD K RBox) := by
  refine dfn_of F scLawBox (fun _ _ _ _ _ _ us hl => match us, hl with | [_, _], _ => rfl) (fun ds d ⟨_, h, _⟩ => by rw [h]; rfl) ?_
  rintro f cdv A outer s H E hr ds d ⟨c, rfl, rfl⟩
  refine ⟨_, pss_cons (ps_set (i := 2) scLawBox.nd rfl (Or.inl rfl) (pe_ifExp (pt_cmpR op_lt (pv 1) (pLen T (pv 0)) (nomark _)) (pe_ix ix_list (pv 0) (pv 1) (fun _ _ => rfl)) pe_int))
    (pss_one (ps_ret (pe_lst (pa_cons (pe_op op_mul (pAbs T (pv 2)) (pInt T (pe_cmpR op_ge (pAbs T (pv 2)) (pe_op op_pow pe_int pe_int) (nomark _)))) (pa_cons (pe_op op_add (pe_op op_add (pe_op op_mod (pInt T (pv 2)) pe_int) (pe_op op_mul pe_int (pv 1))) pe_int) (pa_cons pe_int pa_nil)))))), ?_⟩
  have m1 : (0 : Int) < 2305843009213693951 := by decide
  refine s_seq (s_set (d := .int c) (d_if (b := true) (b_test (EvD.to (d_op (d_var rfl) (d_cb (da_cons (d_var rfl) da_nil) rc_lenL) rd_cmp) rfl)) (fun _ => d_op (d_var rfl) (d_var rfl) (rd_ixL rfl)) fun z => nomatch z)) ?_
  refine s_ret (d_lst (ds := (boxL c).map PyData.int) (da_cons (d_op (d_cb (da_cons (d_var rfl) da_nil) rc_abs) (d_cb (da_cons (d_op (d_cb (da_cons (d_var rfl) da_nil) rc_abs) (d_op d_int d_int (rd_intC (C := CPow) (f := fun i j => i ^ j.toNat) ⟨by decide, by decide, by decide⟩)) (rd_cmp (f := fun i j => decide (j ≤ i)))) da_nil) rc_intB) (rd_intC (C := CMul) (f := fun i j => i * j) (.inr ⟨?_, ?_⟩)))
    (da_cons (d_op (d_op (d_op (d_cb (da_cons (d_var rfl) da_nil) rc_int) d_int (rd_intC (C := fun _ j => 0 < j) (f := fun i j => i % j) m1)) (d_op d_int (d_var rfl) (rd_intC (C := CMul) (f := fun i j => i * j) (.inl ⟨by decide, by decide⟩))) rd_int) d_int rd_int) (da_cons d_int da_nil))) (by show (3 : Nat) ≤ 100000; decide))
  · exact (ite01 _).1
  · exact (ite01 _).2
/-! ### cells -/
/-- a walk from where one stands -/
def SrcA (K : PySem.W.Frag) (wi : TI) (g : TG) (σ : L2.St) (A : Hd) (n : Nat) (ε : Nat → List (Nat × PyData)) : Prop := ∀ R : It → Hp → Prop, (∀ (J : It) (B : Hd), Pr A B → (∀ i (C : Hd), i < n → Ex B.k C.k → J.go i C.h) → (∀ C : Hd, Ex B.k C.k → J.stop n C.h) →
    (∀ i (C : Hd) x H'', i < n → Ex B.k C.k → J.yld i C.h x H'' → ∃ C2 : Hd, C2.h = H'' ∧ Pr C C2 ∧ TgD K g x C C2 (ε i)) → R J B.h) → wi σ A.h R
theorem raw_forA {σ : L2.St} {A : Hd} {wi : TI} {g : TG} {tb : TS} {n : Nat} {ε : Nat → List (Nat × PyData)} {D : Ends} (hs : SrcA K wi g σ A n ε) (Pv : Hd → Nat → L2.St → Hd → Prop) (h0 : ∀ B, Pr A B → Pv B 0 σ B)
    (hx : ∀ B i σ' C, Pr A B → Pv B i σ' C → Ex B.k C.k)
    (ht : ∀ B i σ' C x C2, Pr A B → i < n → Pv B i σ' C → Pr C C2 → TgD K g x C C2 (ε i) → g x σ' C2.h fun σ2 H2 =>
      tb { D with nx := fun σ3 H3 => ∃ C3 : Hd, C3.h = H3 ∧ Pv B (i + 1) σ3 C3, ct := fun σ3 H3 => ∃ C3 : Hd, C3.h = H3 ∧ Pv B (i + 1) σ3 C3, bk := D.nx } σ2 H2)
    (hd : ∀ B σ' C, Pr A B → Pv B n σ' C → D.nx σ' C.h) : tFor wi g tb D σ A.h :=
  hs _ fun J B e1 hgo hstop hyld => by
    refine ⟨fun i m σ' H' => m = n - i ∧ i ≤ n ∧ ∃ C : Hd, C.h = H' ∧ Pv B i σ' C, ⟨n, by simp, Nat.zero_le _, B, rfl, h0 B e1⟩, ?_⟩
    rintro i m σ' H' ⟨rfl, hi, C, rfl, c1⟩
    by_cases hlt : i < n
    · refine .inr ⟨hgo i C hlt (hx B i σ' C e1 c1), fun σ2 H2 => ∃ C3 : Hd, C3.h = H2 ∧ Pv B (i + 1) σ2 C3, fun σ2 H2 ⟨C3, e3, p3⟩ => ⟨n - (i + 1), by omega, rfl, hlt, C3, e3, p3⟩, fun x H'' y => ?_⟩
      obtain ⟨C2, rfl, c2, tg⟩ := hyld i C x H'' hlt (hx B i σ' C e1 c1) y
      exact ht B i σ' C x C2 e1 hlt c1 c2 tg
    · have e : i = n := by omega
      subst e
      exact .inl ⟨hstop C (hx B i σ' C e1 c1), hd B σ' C e1 c1⟩
/-- enumerate of a list that is known -/
theorem srcA_enum {σ : L2.St} {A : Hd} {te : TE} {m n : Nat} {ds : List PyData} (h : ∀ Q : VK, (∀ v B, Pr A B → Da K B.k v (.list ds) → Q v B.h) → te σ A.h Q) :
    SrcA K (iEnum K (tCons te tNil)) (gTup K 2 (gCons (gName m) (gCons (gName n) gNil))) σ A ds.length (fun i => [(m, .int (i : Nat)), (n, ds.getD i .none)]) := fun R q =>
  h _ fun v B e1 hv => by
    cases hv with
    | @lst a xs _ hl ha =>
      refine ⟨a, xs, rfl, SqL.of (B.ex _ _ hl), q _ B e1 (fun i C hi e => ?_) (fun C e => ?_) (fun i C x H'' hi e y => ?_)⟩
      · have hi' : i < xs.length := by rw [ha.len]; exact hi
        exact ⟨xs, xs[i], SqL.of (C.ex _ _ (e _ _ hl)), List.getElem?_eq_getElem hi'⟩
      · exact ⟨xs, SqL.of (C.ex _ _ (e _ _ hl)), Nat.le_of_eq ha.len⟩
      · obtain ⟨T, x', rfl, hT, rfl, f1⟩ := y
        obtain ⟨d, h1, h2⟩ := ha.vat (f1 xs (SqL.of (C.ex _ _ (e _ _ hl))))
        refine ⟨C.new T _ hT, rfl, C.pr hT, tg_pair (C.pr hT) upd_same (.int _) ?_⟩
        rw [List.getD_eq_getElem?_getD, h1]
        exact (h2.ex e).ex (C.pr hT).k
theorem DaAll.cut {H : Hp} {xs : List V} {ds : List PyData} {lo hi : Option Int} (h : DaAll K H xs ds) : DaAll K H (cutV xs lo hi) (cutD ds lo hi) := by
  unfold cutV cutD
  rw [h.len]
  exact (h.drop _).take _
/-- the list at a, in part, as a new one -/
theorem sl_known {σ : L2.St} {A : Hd} {a : Addr} {i : Nat} {ns : List Int} {tl th : TO} {lo hi : Option Int} {Q : VK} (s : σ[i]? = some (some (.ref a))) (hS : SqL K A.h a (ns.map V.int)) (hl : ∀ Q : Option Int → Hp → Prop, Q lo A.h → tl σ A.h Q) (hu : ∀ Q : Option Int → Hp → Prop, Q hi A.h → th σ A.h Q)
    (q : ∀ v B, Pr A B → Da K B.k v (.list (cutD (ns.map PyData.int) lo hi)) → Q v B.h) : tSl (rSlL K) (tVar i) tl th σ A.h Q := by
  refine ⟨_, s, hl _ (hu _ ⟨a, _, rfl, hS, fun p hp => q _ (A.new p _ hp) (A.pr hp) (.lst (A.at hp) ?_)⟩)⟩
  have h : DaAll K (A.new p (.lst (cutV (ns.map V.int) lo hi)) hp).k (ns.map V.int) (ns.map PyData.int) := DaAll.ints ns
  exact h.cut
/-- a list of one number, at the end -/
def spCells (K : PySem.W.Frag) : Sp := fun vs H Q _ => ∃ (A : Hd) (a : Addr) (ns : List Int), A.h = H ∧ vs = [.ref a, .int 1] ∧ SqL K A.h a (ns.map V.int) ∧ ns.length ≤ 63 ∧ ∀ v c B, Pr A B → Da K B.k v (li [c]) → Q v B.h
theorem ok_law_cells (F : FunM K mg "_law_cells" sLawCells) (T : Blt mg) : Dfn P w K mg base CX0 1 "_law_cells" ["_law_script", "_law_most_so"] (spCells K) := by
  refine dfn_raw F scLawCells (fun _ _ _ _ _ _ us hl => match us, hl with | [_, _], _ => rfl) (fun vs H Q E ⟨_, _, _, _, h, _⟩ => by rw [h]; rfl) ?_
  intro f cdv A outer s H vs Q E hr h
  obtain ⟨A0, a, ns, rfl, rfl, hS, hl, q⟩ := h
  refine ⟨_, pss_cons (ps_set (i := 2) scLawCells.nd rfl (Or.inl rfl) (pe_orT (pLst T (pe_slice sl_list (pv 0) po_none (po_some (pv 1)))) (pe_one (pe_lst (pa_cons pe_int pa_nil)))))
    (pss_cons (ps_for PassesOwn.never rfl (pi_enum (by rfl) T.enum (pa_cons (pe_slice sl_list (pv 0) (po_some (pv 1)) (po_some pe_int)) pa_nil)) (pg_tup rfl (pgs_cons (pg_name (i := 3) scLawCells.nd rfl (Or.inl rfl)) (pgs_cons (pg_name (i := 4) scLawCells.nd rfl (Or.inl rfl)) pgs_nil)))
      (pss_cons (ps_set (i := 5) scLawCells.nd rfl (Or.inl rfl) (pe_op op_mod (pInt T (pv 3)) (pv 1)))
      (pss_one (ps_asg (pe_op op_add (pe_ix ix_list (pv 2) (pv 5) (fun _ _ => rfl)) (pe_op op_mul (pv 4) (pe_op op_add (pv 3) pe_int))) (pg_sub (pv 2) (pv 5) set_list)))))
    (pss_one (ps_ret (pv 2)))), ?_⟩
  have kn0 : KnS K (L2.start nLawCells [.ref a, .int 1]) A0.k [none, some (.int 1), none, none, none, none] := KnS.startT (.cons (.int 1) .nil)
  have s0 : (L2.start nLawCells [.ref a, .int 1])[0]? = some (some (.ref a)) := rfl
  have s1 : (L2.start nLawCells [.ref a, .int 1])[1]? = some (some (.int 1)) := rfl
  have one : ∀ (σ : L2.St) (H : Hp) (Q : Option Int → Hp → Prop), σ[1]? = some (some (.int 1)) → Q (some 1) H → tPart (tVar 1) σ H Q := fun σ H Q h q => ⟨_, h, 1, rfl, q⟩
  -- what follows the first statement
  have rest : ∀ (C : Hd) (l : Addr) (c : Int), Ow K A0 ((L2.start nLawCells [.ref a, .int 1]).set 2 (some (.ref l))) C [none, some (.int 1), none, none, none, none] 2 l [V.int c] → SqL K C.h a (ns.map V.int) → _ := fun C l c o hS2 => by
    refine raw_forA (K := K) (σ := (L2.start nLawCells [.ref a, .int 1]).set 2 (some (.ref l))) (A := C) (tb := tSeq (tAsg (tOp (rI (fun _ j => 0 < j) fun i j => .int (i % j)) (tCB (fun xs H Q => (∃ i, xs = [.int i] ∧ Q (.int i) H) ∨ ∃ k, xs = [.bl k] ∧ Q (.int (if k then 1 else 0)) H) (tCons (tVar 3) tNil)) (tVar 1)) (gName 5))
        (tAsg (tOp (rI0 fun i j => .int (i + j)) (tOp (rIxL K) (tVar 2) (tVar 5)) (tOp (rI CMul fun i j => .int (i * j)) (tVar 4) (tOp (rI0 fun i j => .int (i + j)) (tVar 3) (tC (.int 2))))) (gSub (tVar 2) (tVar 5) rSetL)))
      (D := { nx := fun σ H => tRet (tVar 2) { nx := fun _ H' => Q .non H', rt := Q } σ H, rt := Q })
      (srcA_enum (m := 3) (n := 4) (ds := cutD (ns.map PyData.int) (some 1) (some 63)) fun Q' q' => sl_known (K := K) (i := 0) (tl := tPart (tVar 1)) (th := tPart (tC (.int 63))) (lo := some 1) (hi := some 63) (by rfl) hS2 (fun Q'' h => one _ _ _ rfl h) (fun Q'' h => ⟨63, rfl, h⟩) q')
      (fun B i σ' C' => ∃ c', Ow K A0 σ' C' [none, some (.int 1), none, none, none, none] 2 l [V.int c'] ∧ Ex B.k C'.k) (fun B e => ⟨c, o.step e, Ex.refl _⟩) (fun B i σ' C' _ ⟨_, _, h⟩ => h) ?_ ?_
    · rintro B i σ' C' x C2 e hi ⟨c', o1, x1⟩ c2 tg
      have hcut : ∃ z : Int, (cutD (ns.map PyData.int) (some 1) (some 63)).getD i .none = .int z := by
        have hm : (cutD (ns.map PyData.int) (some 1) (some 63)).getD i .none ∈ cutD (ns.map PyData.int) (some 1) (some 63) := by
          rw [List.getD_eq_getElem?_getD, List.getElem?_eq_getElem hi]
          exact List.getElem_mem hi
        have hm2 := List.mem_of_mem_drop (List.mem_of_mem_take hm)
        obtain ⟨z, _, hz⟩ := List.mem_map.mp hm2
        exact ⟨z, hz.symm⟩
      have hi63 : i < 63 := by
        have : (cutD (ns.map PyData.int) (some 1) (some 63)).length ≤ (ns.map PyData.int).length := by
          unfold cutD
          rw [List.length_take, List.length_drop]
          omega
        rw [List.length_map] at this
        omega
      obtain ⟨z, hz⟩ := hcut
      rw [hz] at tg
      refine tg σ' _ o1.kn _ fun σ2 k2 hw => ?_
      have hs2 : σ2[2]? = σ'[2]? := wipe_at (hw [3, 4] (fun p hp => by
        rcases List.mem_cons.mp hp with rfl | hp
        · exact List.mem_cons_self
        · rw [List.mem_singleton.mp hp]
          simp)) (by decide)
      have o2 := (o1.step c2).slots k2 hs2
      have m1 : (0 : Int) < 1 := by decide
      refine seq_i (ow_set (d := .int ((i : Int) % 1)) o2 (d_op (d_cb (da_cons (d_var (i := 3) rfl) da_nil) rc_int) (d_var (i := 1) rfl) (rd_intC (C := fun _ j => 0 < j) (f := fun i j => i % j) m1)) (by decide) fun σ3 C3 o3 e3 => ?_)
      have e0 : (i : Int) % 1 = 0 := by omega
      rw [e0] at o3
      obtain ⟨v5, h5, d5⟩ := o3.kn.2 5 (.int 0) rfl
      obtain ⟨v4, h4, d4⟩ := o3.kn.2 4 (.int z) rfl
      obtain ⟨v3, h3, d3⟩ := o3.kn.2 3 (.int (i : Nat)) rfl
      cases d5
      cases d4
      cases d3
      refine ⟨_, o3.sl, _, h5, l, [V.int c'], 0, V.int c', rfl, rfl, SqL.of o3.st, rfl, _, h4, _, h3, _, _, rfl, rfl, _, _, rfl, rfl, .inr ⟨by omega, by omega⟩, _, _, rfl, rfl, ?_⟩
      refine ⟨_, o3.sl, _, h5, l, [V.int c'], 0, 0, rfl, rfl, o3.st, rfl, ?_⟩
      refine ⟨C3.mut l _ o3.nk, rfl, _, ((o3.mut _).fgt ?_), (x1.trans c2.k).trans e3.k⟩
      exact (Fgt.set [none, some (.int 1), none, some (.int (i : Nat)), some (.int z), some (.int 0)] 5).trans ((Fgt.set [none, some (.int 1), none, some (.int (i : Nat)), some (.int z), none] 4).trans (Fgt.set [none, some (.int 1), none, some (.int (i : Nat)), none, none] 3))
    · rintro B σ' C' e ⟨c', o1, x1⟩
      refine ⟨_, o1.sl, ?_⟩
      obtain ⟨l1, l2, l3⟩ := o1.learnt
      exact q _ c' (C'.learn l _ o1.st) l1 (o1.da (ds := [.int c']) (.cons (.int c') .nil))
  have hc0 : ∀ (ns : List Int), cutV (ns.map V.int) none (some 1) = (ns.take 1).map V.int := fun ns => by
    unfold cutV
    rw [HT.sIx_none, show (1 : Int) = ((1 : Nat) : Int) from rfl, HT.sIx_nat, List.length_map, List.drop_zero, List.map_take]
    cases ns with
    | nil => rfl
    | cons x r => rw [show min 1 (x :: r).length - 0 = 1 by rw [List.length_cons]; omega]
  refine seq_i (asg_i ⟨_, s0, _, s1, 1, rfl, a, _, rfl, hS, fun p hp => ⟨p, _, rfl, .inl (SqL.of upd_same), fun l hl => ?_⟩⟩)
  have e1 := (A0.pr (o := .lst (cutV (ns.map V.int) none (some 1))) hp)
  have e2 := ((A0.new p (.lst (cutV (ns.map V.int) none (some 1))) hp).pr (o := .lst (cutV (ns.map V.int) none (some 1))) hl)
  cases ns with
  | nil =>
    refine ⟨false, .inl ⟨_, SqL.of upd_same, rfl⟩, iteF ?_⟩
    refine ⟨by show 1 ≤ sizeLine; decide, fun l2 hl2 => ?_⟩
    exact rest (((A0.new p _ hp).new l _ hl).mut l2 _ (((A0.new p _ hp).new l _ hl).kn hl2)) l2 0 (Ow.made (e1.trans e2) (kn0.ex (e1.trans e2).k) hl2 (by show 2 < 6; decide)) (ex_l (Ex.new hl2) (ex_l (e1.trans e2).h hS))
  | cons x r =>
    refine ⟨true, .inl ⟨_, SqL.of upd_same, by rw [hc0]; rfl⟩, iteT ?_⟩
    have ec : cutV ((x :: r).map V.int) none (some 1) = [V.int x] := hc0 (x :: r)
    clear e2
    rw [ec] at hl e1 ⊢
    exact rest ((A0.new p _ hp).mut l _ ((A0.new p _ hp).kn hl)) l x (Ow.made e1 (kn0.ex e1.k) hl (by show 2 < 6; decide)) (ex_l (Ex.new hl) (ex_l e1.h hS))
end
end Lo
/-! E12: a drawn long row. -/
namespace Lo
open PySem PySem.Spec L2 Evl PyProof.Rows

/-- the object at q is another one, it is known -/
def Hd.both (B : Hd) (q : Addr) (o : HO) : Hd where
  k := upd B.k q o
  h := upd B.h q o
  ex := fun a u e => by
    by_cases z : a = q
    · subst z
      rw [upd_same] at e ⊢
      exact e
    · rw [upd_ne z] at e ⊢
      exact B.ex a u e
section
variable {K : PySem.W.Frag} {A A0 B C : Hd} {p q : Addr} {n m : Nat} {o : HO} {σ : L2.St} {δ : De} {i : Nat} {te : TE} {ta : TA} {S : PyData → Prop} {SA : List PyData → Prop} {D : Ends}
theorem pm_both (a : Pm p A0 B) (h0 : A0.h q = none) (hn : q ≠ p) : Pm p A0 (B.both q o) := by
  refine ⟨fun r u hr => ?_, fun r u h1 h2 => ?_, fun r h1 h2 => ?_, fun h => ?_⟩
  · have ne : r ≠ q := fun z => by
      rw [z, A0.kn h0] at hr
      cases hr
    show upd B.k q o r = _
    rw [upd_ne ne]
    exact a.k r u hr
  · have ne : r ≠ q := fun z => by
      rw [z, h0] at h2
      cases h2
    show upd B.h q o r = _
    rw [upd_ne ne]
    exact a.h r u h1 h2
  · have ne : r ≠ q := fun z => by
      rw [z] at h2
      exact h2 h0
    show upd B.k q o r = _
    rw [upd_ne ne]
    exact a.fr r h1 h2
  · show upd B.h q o p ≠ none
    rw [upd_ne (Ne.symm hn)]
    exact a.pp h
theorem pm_learn (a : Pm p A0 B) (h0 : A0.h q = none) (hq : B.h q = some o) : Pm p A0 (B.learn q o hq) := by
  refine ⟨fun r u hr => ?_, a.h, fun r h1 h2 => ?_, a.pp⟩
  · have ne : r ≠ q := fun z => by
      rw [z, A0.kn h0] at hr
      cases hr
    show upd B.k q o r = _
    rw [upd_ne ne]
    exact a.k r u hr
  · have ne : r ≠ q := fun z => by
      rw [z] at h2
      exact h2 h0
    show upd B.k q o r = _
    rw [upd_ne ne]
    exact a.fr r h1 h2
theorem tn_both (t : Tn B p n) (hn : q ≠ p) : Tn (B.both q o) p n := by
  refine ⟨?_, ?_⟩
  · show upd B.k q o p = none
    rw [upd_ne (Ne.symm hn)]
    exact t.nk
  · obtain ⟨x, y, z, h1, h2, h3⟩ := t.st
    exact ⟨x, y, z, h1, h2, by show upd B.h q o p = _; rw [upd_ne (Ne.symm hn)]; exact h3⟩
theorem tn_learn (t : Tn B p n) (hn : q ≠ p) (hq : B.h q = some o) : Tn (B.learn q o hq) p n := by
  refine ⟨?_, t.st⟩
  show upd B.k q o p = none
  rw [upd_ne (Ne.symm hn)]
  exact t.nk
theorem m_le {m' : Nat} (h : EvM K te δ i m S) (hm : m ≤ m') : EvM K te δ i m' S := fun σ A p n k s t hn Q q => h σ A p n k s t (by omega) Q fun v d B e t1 s1 hv => q v d B e (t1.mono (by omega)) s1 hv
/-- name = a drawn value -/
theorem m_set {j : Nat} (h : EvM K te δ i m S) (k : KnS K σ A.k δ) (s : σ[i]? = some (some (.ref p))) (t : Tn A p n) (hn : n + m ≤ 100000) (hj : j ≠ i)
    (q : ∀ σ' d B, S d → Pm p A B → Tn B p (n + m) → KnS K σ' B.k (δ.set j (some d)) → σ'[i]? = some (some (.ref p)) → (∀ l, l ≠ j → σ'[l]? = σ[l]?) → D.nx σ' B.h) : tAsg te (gName j) D σ A.h :=
  h σ A p n k s t hn _ fun v d B e t1 s1 hv => q _ d B s1 e t1 ((k.ex e.k).set hv) ((List.getElem?_set_ne hj).trans s) fun l hl => List.getElem?_set_ne (Ne.symm hl)
/-- name, name = (drawn value, drawn value) -/
theorem m_asg2 {a c : Nat} (h : EvMA K ta δ i m SA) (h2 : ∀ ds, SA ds → ∃ x y, ds = [x, y]) (k : KnS K σ A.k δ) (s : σ[i]? = some (some (.ref p))) (t : Tn A p n) (hn : n + m ≤ 100000) (ha : a ≠ i) (hc : c ≠ i)
    (q : ∀ σ' x y B, SA [x, y] → Pm p A B → Tn B p (n + m) → KnS K σ' B.k ((δ.set a (some x)).set c (some y)) → σ'[i]? = some (some (.ref p)) → D.nx σ' B.h) : tAsg (tTup ta) (gTup K 2 (gCons (gName a) (gCons (gName c) gNil))) D σ A.h :=
  h σ A p n k s t hn _ fun vs ds B e t1 s1 hv => by
    obtain ⟨x, y, rfl⟩ := h2 ds s1
    obtain ⟨v, w, rfl, hv1, hw⟩ := hv.two
    refine ⟨by show 2 ≤ sizeLine; decide, fun r hr => ⟨r, [v, w], rfl, SqT.of upd_same, rfl, v, [w], rfl, w, [], rfl, rfl, ?_⟩⟩
    have e2 := B.pr (o := .tup [v, w]) hr
    exact q _ x y (B.new r _ hr) s1 (e.trans e2.pm) (t1.pr e2) (((k.ex (e.k.trans e2.k)).set (hv1.ex e2.k)).set (hw.ex e2.k)) ((List.getElem?_set_ne hc).trans ((List.getElem?_set_ne ha).trans s))
end
/-! ### the row -/
def toI : PyData → Int
  | .int i => i
  | _ => 0
def lotOf (n : Nat) : PyData := ti (Lp (tb n))
theorem bitB_tb (n : Nat) : bitB (n : Int) = tb n := funext fun i => bitB_nat n i
/-- the board -/
def boardD : PyData := .tuple [li (castL (rigS basN)), li ((castL (rigS basN)).filter fun x => decide ((talS 12).getD (Builtin.bitAnd x 4095).toNat 0 + (talS 12).getD (x / 2 ^ 12).toNat 0 = 8)), li (talS 12)]
/-- a drawn long row: long, not great -/
def Drn (ns : List Int) : Prop := (∃ n m h, LR ns n m h) ∧ ∀ i, i < 24 → -30 ≤ ns.getD i 0 ∧ ns.getD i 0 ≤ 30
def PSome (ds : List PyData) : Prop := ds = [boardD]
def RSome (ds : List PyData) (d : PyData) : Prop := ∃ ns, Drn ns ∧ d = ti ns
theorem LR.mk' {ns : List Int} {n : Nat} {m : Int} {h : Nat → Int} (hl : ns.length = 24) (ha : ∀ i, i < 24 → ns.getD i 0 = m + 2 * b2 (tb n i) + 4 * h i) (hn : n ∈ rigS basN) (hm : m = 0 ∨ m = 1) (hs : (ns.sum - 4 * m) % 8 = 0) : LR ns n m h := by
  refine ⟨hl, ha, hn, hm, ?_⟩
  have e : ns.sum = 24 * m + 2 * (wtB (tb n) : Nat) + 4 * S h := by
    rw [sum_tab hl, S_congr ha, S_add (fun i => m + 2 * b2 (tb n i)), S_add (fun _ => m), S_const, S_mul, S_mul, S_b2]
  have w4 := rig_wt' hn
  rw [e] at hs
  rcases hm with rfl | rfl <;> omega
theorem set_getD {ns : List Int} {k i : Nat} {x : Int} (hk : k < ns.length) : (ns.set k x).getD i 0 = if i = k then x else ns.getD i 0 := by
  rw [List.getD_eq_getElem?_getD, List.getElem?_set]
  by_cases e : k = i
  · subst e
    rw [if_pos rfl, if_pos hk, if_pos rfl]
    rfl
  · rw [if_neg e, if_neg (Ne.symm e), List.getD_eq_getElem?_getD]
section
variable {P : Program} {w : World} {K : PySem.W.Frag} {mg : Str → Option Value} {base : Heap}
/-- a lot of the board, drawn -/
theorem m_lot {δ : De} {tb0 : TE} {i : Nat} (h : EvD K tb0 δ (li (castL (rigS basN)))) : EvM K (tCall (spD K RLawLot) [] E0 (tCons (tCall (spT K 1 POf ROf) [] E0 (tCons (tVar i) (tCons tb0 tNil))) tNil)) δ i 1 (fun x => ∃ n ∈ rigS basN, x = lotOf n) := by
  have hlen : (castL (rigS basN)).length = 4096 := by
    unfold castL
    rw [List.length_map, rig_len]
    rfl
  refine m_call (m := 1) (m_cons (m1 := 1) (m2 := 0) (m_draw (Pre := POf) (R := ROf) (da_cons h da_nil) ⟨_, by rw [List.length_map, hlen]; decide, by rw [List.length_map, hlen]; decide, rfl⟩) m_nil) ?_
  rintro ds ⟨x, xs, rfl, ⟨gs, e, hx⟩, rfl⟩
  have eg : gs = (castL (rigS basN)).map PyData.int := by
    have := (List.cons.inj e).1
    exact (PyData.list.inj this).symm
  rw [eg] at hx
  obtain ⟨z, hz, rfl⟩ := List.mem_map.mp hx
  obtain ⟨n, hn, rfl⟩ := List.mem_map.mp hz
  exact ⟨lotOf n, ⟨n, hn, rfl⟩, (n : Int), rfl, by rw [bitB_tb]; rfl⟩
theorem m_take {δ : De} {te : TE} {i : Nat} {b : Int} (h : EvD K te δ (.int b)) (h1 : 1 ≤ b) (h2 : b ≤ 5000) : EvM K (tCall (spT K 1 PTake RTake) [] E0 (tCons (tVar i) (tCons te tNil))) δ i 1 (fun d => ∃ j : Int, 0 ≤ j ∧ j < b ∧ d = .int j) :=
  m_imp (m_draw (Pre := PTake) (R := RTake) (da_cons h da_nil) ⟨b, h1, h2, rfl⟩) fun d ⟨b', j, e, h3, h4, e2⟩ => ⟨j, h3, by
    have := (List.cons.inj e).1
    rw [PyData.int.inj this]
    exact h4, e2⟩
theorem ok_law_some_long (F : FunM K mg "_law_some_long" sLawSomeLong) (T : Blt mg) (G1 : Dfn P w K mg base CX0 1 "_law_take" ["_law_tin", "_law_below_so"] (spT K 1 PTake RTake)) (G2 : Dfn P w K mg base CX0 2 "_law_of" ["_law_tin", "_law_goods_so"] (spT K 1 POf ROf))
    (G3 : Dfn P w K mg base CX0 1 "_law_lot" ["_law_number_so"] (spD K RLawLot)) : Dfn P w K mg base CX0 3 "_law_some_long" ["_law_tin", "_law_board_so"] (spT K 28 PSome RSome) := by
  refine dfn_raw F scLawSomeLong (fun _ _ _ _ _ _ us hl => match us, hl with | [_, _], _ => rfl) (fun vs H Q E h => ?_) ?_
  · obtain ⟨A, p, n, ws, ds, _, rfl, _, _, ha, hp, _⟩ := h
    rw [List.length_cons, ha.len, show ds = [boardD] from hp]
    rfl
  intro f cdv A outer s H vs Q E hr h
  obtain ⟨A0, p, n, ws, ds, rfl, rfl, tn, hn, ha, hp, q⟩ := h
  have hp' : ds = [boardD] := hp
  subst hp'
  refine ⟨_, pss_cons (ps_asg (pe_tup (pa_cons (pc G3 (hr.mono (by decide)) (pa_cons (pc G2 hr (pa_cons (pv 0) (pa_cons (pe_ix ix_tup (pv 1) pe_int (fun _ _ => rfl)) pa_nil))) pa_nil)) (pa_cons (pc G1 (hr.mono (by decide)) (pa_cons (pv 0) (pa_cons pe_int pa_nil))) pa_nil)))
      (pg_tup rfl (pgs_cons (pg_name (i := 2) scLawSomeLong.nd rfl (Or.inr rfl)) (pgs_cons (pg_name (i := 3) scLawSomeLong.nd rfl (Or.inr rfl)) pgs_nil))))
    (pss_cons (ps_setLc (i := 4) (own := [("_law_k", 6)]) (g := gName 6) (tt := tYes) rfl scLawSomeLong.nd rfl rfl (sw_true rfl rfl rfl (by decide +kernel)) (pi_range1 rfl T.range (pa_cons pe_int pa_nil)) (blkOk_by (N := nLawSomeLong) (sc := defScope sLawSomeLong) (by decide +kernel))
      (fun _ _ _ _ _ => pg_name (i := 6) scLawSomeLong.nd rfl (Or.inl rfl)) (fun _ _ _ _ _ => pts_nil)
      (fun _ _ _ _ _ => pe_op op_add (pe_op op_add (pv 3) (pe_op op_mul pe_int (pInt T (pe_cmpR (inK K) (pv 6) (pv 2) rfl)))) (pe_op op_mul pe_int (pe_op op_sub (pc G1 (hr.mono (by decide)) (pa_cons (pv 0) (pa_cons pe_int pa_nil))) pe_int))))
    (pss_cons (ps_set (i := 5) scLawSomeLong.nd rfl (Or.inl rfl) (pc G1 (hr.mono (by decide)) (pa_cons (pv 0) (pa_cons pe_int pa_nil))))
    (pss_cons (ps_if (pt_cmpR (op_neD hr.units) (pe_op op_mod (pInt T (pe_op op_sub (pSum T rfl (pv 4)) (pe_op op_mul pe_int (pv 3)))) pe_int) pe_int (nomark _))
      (pss_one (ps_asg (pe_op op_sub (pe_op op_add (pe_ix ix_list (pv 4) (pv 5) (fun _ _ => rfl)) pe_int) (pe_op op_mul pe_int (pc G1 (hr.mono (by decide)) (pa_cons (pv 0) (pa_cons pe_int pa_nil))))) (pg_sub (pv 4) (pv 5) set_list))) pss_nil)
    (pss_one (ps_ret (pTup T (pv 4))))))), ?_⟩
  have kn := KnS.startT (N := nLawSomeLong) (v := .ref p) ha
  -- the lot, the rest
  refine seq_i (m_asg2 (m := 2) (m_cons (m1 := 1) (m2 := 1) (m_lot (d_op (d_var (i := 1) rfl) d_int (rd_ixT rfl))) (m_cons (m1 := 1) (m2 := 0) (m_take (d_int (i := 2)) (by decide) (by decide)) m_nil)) (fun ds ⟨x, xs, e, _, y, ys, e2, _, e3⟩ => ⟨x, y, by rw [e, e2, e3]⟩) kn rfl tn (by omega) (by decide) (by decide) fun σ1 x y B1 hs e1 t1 k1 s1 => ?_)
  obtain ⟨x', xs', ee, ⟨nn, hnn, rfl⟩, y', ys', ee2, ⟨mm, hm0, hm2, rfl⟩, rfl⟩ := hs
  obtain ⟨rfl, rfl⟩ := List.cons.inj ee
  obtain ⟨rfl, _⟩ := List.cons.inj ee2
  have hmm : mm = 0 ∨ mm = 1 := by omega
  -- the numbers
  refine seq_i (asg_i (lc_draw (K := K) (m := 1) (i := 0) (Sj := fun j d => ∃ t : Int, 0 ≤ t ∧ t < 3 ∧ d = .int (mm + 2 * b2 (tb nn j) + 4 * (t - 1))) (w_rng1 (n := 6) (m := 24) (da_cons d_int da_nil) (by decide)) (by decide) own1 (by decide) (fun j hj => ?_) k1 s1 t1 (by omega) ?_))
  · have hb : EvD K _ (sets (wipeD [none, some boardD, some (lotOf nn), some (.int mm), none, none, none] [6]) [(6, .int (j : Nat))]) (.int (mm + 2 * b2 (tb nn j))) := d_op (d_var (i := 3) rfl) (d_op (d_int (i := 2)) (EvD.to (z := .int (b2 (tb nn j))) (d_cb (da_cons (d_op (d_var (i := 6) rfl) (d_var (i := 2) rfl) rd_inT) da_nil) rc_intB) (by rw [mem_Lp_iff hj]; rfl)) (rd_intC (C := CMul) (f := fun i j => i * j) (.inl ⟨by decide, by decide⟩))) (rd_int (f := fun i j => i + j))
    refine m_op (m1 := 0) (m2 := 1) (m_pure hb) (m_op (m1 := 0) (m2 := 1) (S := fun d => ∃ t : Int, 0 ≤ t ∧ t < 3 ∧ d = .int (4 * (t - 1))) (m_pure d_int) (m_op (m1 := 1) (m2 := 0) (S := fun d => ∃ t : Int, 0 ≤ t ∧ t < 3 ∧ d = .int (t - 1)) (m_take (d_int (i := 3)) (by decide) (by decide)) (m_pure d_int) ?_) ?_) ?_
    · rintro x y ⟨t, h1, h2, rfl⟩ rfl
      exact ⟨_, ⟨t, h1, h2, rfl⟩, rd_int (f := fun i j => i - j)⟩
    · rintro x y rfl ⟨t, h1, h2, rfl⟩
      exact ⟨_, ⟨t, h1, h2, rfl⟩, rd_intC (C := CMul) (f := fun i j => i * j) (.inl ⟨by decide, by decide⟩)⟩
    · rintro x y rfl ⟨t, h1, h2, rfl⟩
      exact ⟨_, ⟨t, h1, h2, rfl⟩, rd_int (f := fun i j => i + j)⟩
  intro C Dl xs ds e2 t2 hD0 hDp hDk hL hA hl hS
  have hD00 : A0.h Dl = none := by
    cases ho : A0.h Dl with
    | none => rfl
    | some o =>
      have := e1.h Dl o hDp ho
      rw [hD0] at this
      cases this
  -- as ints
  let ns : List Int := ds.map toI
  have hnl : ns.length = 24 := by
    show (ds.map toI).length = 24
    rw [List.length_map, hl]
  have hat : ∀ j, j < 24 → ∃ t : Int, 0 ≤ t ∧ t < 3 ∧ ns.getD j 0 = mm + 2 * b2 (tb nn j) + 4 * (t - 1) := fun j hj => by
    obtain ⟨t, h1, h2, h3⟩ := hS j hj
    refine ⟨t, h1, h2, ?_⟩
    rw [List.getD_eq_getElem?_getD, List.getElem?_eq_getElem (by omega)] at h3
    show (ds.map toI).getD j 0 = _
    rw [List.getD_eq_getElem?_getD, List.getElem?_map, List.getElem?_eq_getElem (by omega)]
    have h3' : ds[j] = .int (mm + 2 * b2 (tb nn j) + 4 * (t - 1)) := h3
    show toI ds[j] = _
    rw [h3']
    rfl
  have hds : ds = ns.map PyData.int := by
    refine List.ext_getElem? fun j => ?_
    by_cases hj : j < 24
    · obtain ⟨t, h1, h2, h3⟩ := hS j hj
      rw [List.getD_eq_getElem?_getD, List.getElem?_eq_getElem (by omega)] at h3
      have h3' : ds[j] = .int (mm + 2 * b2 (tb nn j) + 4 * (t - 1)) := h3
      rw [List.getElem?_map, show ns[j]? = some (toI ds[j]) from by
        show (ds.map toI)[j]? = _
        rw [List.getElem?_map, List.getElem?_eq_getElem (by omega)]
        rfl, List.getElem?_eq_getElem (by omega), h3']
      rfl
    · rw [List.getElem?_eq_none (by omega), List.getElem?_eq_none (by rw [List.length_map, hnl]; omega)]
  clear_value ns
  subst hds
  have hx := hA.ints_inv
  subst hx
  have e12 : Pm p A0 C := e1.trans e2
  have bnd : ∀ j, j < 24 → -8 ≤ ns.getD j 0 ∧ ns.getD j 0 ≤ 8 := fun j hj => by
    obtain ⟨t, h1, h2, h3⟩ := hat j hj
    have h4 := b2_01 (tb nn j)
    omega
  let hh : Nat → Int := fun j => (ns.getD j 0 - mm - 2 * b2 (tb nn j)) / 4
  have hhat : ∀ j, j < 24 → ns.getD j 0 = mm + 2 * b2 (tb nn j) + 4 * hh j := fun j hj => by
    obtain ⟨t, h1, h2, h3⟩ := hat j hj
    show _ = mm + 2 * b2 (tb nn j) + 4 * ((ns.getD j 0 - mm - 2 * b2 (tb nn j)) / 4)
    omega
  clear_value hh
  have k2 : KnS K ((σ1).set 4 (some (.ref Dl))) C.k [none, some boardD, some (lotOf nn), some (.int mm), none, none, none] := (k1.ex e2.k).setAny
  have l1 : σ1.length = 7 := k1.1
  -- the place
  refine seq_i (m_set (K := K) (i := 0) (m := 1) (j := 5) (m_take (d_int (i := 24)) (by decide) (by decide)) k2 ((List.getElem?_set_ne (by decide)).trans s1) t2 (by omega) (by decide) fun σ3 d3 B3 hs3 e3 t3 k3 s3 oth => ?_)
  obtain ⟨pl, hp0, hp1, rfl⟩ := hs3
  have s34 : σ3[4]? = some (some (.ref Dl)) := by
    rw [oth 4 (by decide), List.getElem?_set, if_pos rfl, if_pos (by omega)]
  have hL3 : B3.h Dl = some (.lst (ns.map V.int)) := e3.h _ _ hDp hL
  have e13 : Pm p A0 B3 := e12.trans e3
  -- the list is known from here
  have kl : KnS K σ3 (B3.learn Dl _ hL3).k [none, some boardD, some (lotOf nn), some (.int mm), some (li ns), some (.int pl), none] := by
    have hDk3 : B3.k Dl = none := e3.fr Dl hDk (fun z => by rw [hL] at z; cases z)
    have z := (k3.ex (Ex.new (o := .lst (ns.map V.int)) hDk3)).set (i := 4) (v := .ref Dl) (d := li ns) (.lst (learn_at hL3) (DaAll.ints ns))
    have es : σ3.set 4 (some (.ref Dl)) = σ3 := by
      refine List.ext_getElem? fun j => ?_
      rw [List.getElem?_set]
      split
      · next hj =>
        subst hj
        rw [s34]
        split
        · rfl
        · next hn => rw [List.getElem?_eq_none (by omega)] at s34; cases s34
      · rfl
    rw [es] at z
    exact z
  have m8 : (0 : Int) < 8 := by decide
  have test : EvB K _ [none, some boardD, some (lotOf nn), some (.int mm), some (li ns), some (.int pl), none] (!decide ((ns.sum - 4 * mm) % 8 = 0)) :=
    b_test (d_op (d_op (d_cb (da_cons (d_op (d_cb (da_cons (d_var (i := 4) rfl) da_nil) rc_sum) (d_op (d_int (i := 4)) (d_var (i := 3) rfl) (rd_intC (C := CMul) (f := fun i j => i * j) (.inl ⟨by decide, by decide⟩))) (rd_int (f := fun i j => i - j))) da_nil) rc_int) (d_int (i := 8)) (rd_intC (C := fun _ j => 0 < j) (f := fun i j => i % j) m8)) (d_int (i := 0)) rd_neI)
  have el : Pm p A0 (B3.learn Dl _ hL3) := pm_learn e13 hD00 hL3
  have tl : Tn (B3.learn Dl _ hL3) p (n + 2 + 24 * 1 + 1) := tn_learn t3 hDp hL3
  -- handing it back
  have back : ∀ (σ : L2.St) (Z : Hd) (ms : List Int) (nz : Nat), Pm p A0 Z → Tn Z p nz → nz ≤ n + 28 → KnS K σ Z.k [none, none, none, none, some (li ms), none, none] → Drn ms → tRet (tCB (fun xs H Q => ∃ p ys, xs = [.ref p] ∧ ((SqL K H p ys ∧ ∀ l, H l = none → Q (.ref l) (upd H l (.tup ys))) ∨ (SqT K H p ys ∧ Q (.ref p) H))) (tCons (tVar 4) tNil)) { nx := fun _ H' => Q .non H', rt := Q } σ Z.h :=
    fun σ Z ms nz eZ tZ hz kZ hD => (d_cb (da_cons (d_var (i := 4) rfl) da_nil) rc_tupL) σ Z kZ Q fun v Y eY hv => q v _ Y (eZ.trans eY.pm) ((tZ.pr eY).mono hz) ⟨ms, hD, rfl⟩ hv
  by_cases hs : (ns.sum - 4 * mm) % 8 = 0
  · rw [decide_eq_true hs] at test
    refine seq_i (ifF_i (A := B3.learn Dl _ hL3) test kl fun Z eZ => ?_)
    refine back σ3 Z ns (n + 2 + 24 * 1 + 1) (el.trans eZ.pm) (tl.pr eZ) (by omega) ((kl.ex eZ.k).fgt ?_) ⟨⟨nn, mm, hh, LR.mk' hnl hhat hnn hmm hs⟩, fun j hj => by have := bnd j hj; omega⟩
    exact ((Fgt.set [none, some boardD, some (lotOf nn), some (.int mm), some (li ns), some (.int pl), none] 1).trans (Fgt.set [none, none, some (lotOf nn), some (.int mm), some (li ns), some (.int pl), none] 2)).trans ((Fgt.set [none, none, none, some (.int mm), some (li ns), some (.int pl), none] 3).trans (Fgt.set [none, none, none, none, some (li ns), some (.int pl), none] 5))
  · rw [decide_eq_false hs] at test
    refine seq_i (ifT_i (A := B3.learn Dl _ hL3) test kl fun Z eZ => ?_)
    have hpl : pl.toNat < 24 := by omega
    have epl : pl = ((pl.toNat : Nat) : Int) := by omega
    have ev : EvM K _ [none, some boardD, some (lotOf nn), some (.int mm), some (li ns), some (.int pl), none] 0 1 (fun d => ∃ t : Int, (t = 0 ∨ t = 1) ∧ d = .int (ns.getD pl.toNat 0 + 4 - 8 * t)) :=
      m_op (m1 := 0) (m2 := 1) (m_pure (d_op (d_op (d_var (i := 4) rfl) (d_var (i := 5) rfl) (rd_atL hp0 (by omega))) (d_int (i := 4)) (rd_int (f := fun i j => i + j)))) (m_op (m1 := 0) (m2 := 1) (S := fun d => ∃ t : Int, (t = 0 ∨ t = 1) ∧ d = .int (8 * t)) (m_pure (d_int (i := 8))) (m_take (d_int (i := 2)) (by decide) (by decide)) (by
        rintro x y rfl ⟨t, h1, h2, rfl⟩
        exact ⟨_, ⟨t, by omega, rfl⟩, rd_intC (C := CMul) (f := fun i j => i * j) (.inl ⟨by decide, by decide⟩)⟩)) (by
        rintro x y rfl ⟨t, h1, rfl⟩
        exact ⟨_, ⟨t, h1, rfl⟩, rd_int (f := fun i j => i - j)⟩)
    refine asg_i (ev σ3 Z p (n + 2 + 24 * 1 + 1) (kl.ex eZ.k) s3 (tl.pr eZ) (by omega) _ fun v d Y eY tY hd hv => ?_)
    obtain ⟨t, ht, rfl⟩ := hd
    cases hv
    have kY := (kl.ex eZ.k).ex eY.k
    obtain ⟨v5, h5, d5⟩ := kY.2 5 (.int pl) rfl
    cases d5
    have hYD : Y.k Dl = some (.lst (ns.map V.int)) := eY.k _ _ (eZ.k _ _ (learn_at hL3))
    refine ⟨_, s34, _, h5, Dl, ns.map V.int, pl, pl.toNat, rfl, rfl, Y.ex _ _ hYD, ?_, ?_⟩
    · unfold ixN
      rw [if_pos hp0, if_pos (by rw [List.length_map, hnl]; omega)]
    · rw [map_set_int]
      have eW := (el.trans eZ.pm).trans eY
      refine back σ3 (Y.both Dl (.lst ((ns.set pl.toNat (ns.getD pl.toNat 0 + 4 - 8 * t)).map V.int))) (ns.set pl.toNat (ns.getD pl.toNat 0 + 4 - 8 * t)) (n + 2 + 24 * 1 + 1 + 1) (pm_both eW hD00 hDp) (tn_both tY hDp) (by omega) ⟨kY.1, fun j d hj => ?_⟩ ⟨⟨nn, mm, fun j => hh j + (if j = pl.toNat then 1 - 2 * t else 0), LR.mk' (by rw [List.length_set, hnl]) (fun j hj => ?_) hnn hmm ?_⟩, fun j hj => ?_⟩
      · rcases j with _ | _ | _ | _ | _ | _ | _ | j
        all_goals first
          | (cases hj; done)
          | skip
        have e := Option.some.inj (Option.some.inj hj)
        subst e
        exact ⟨_, s34, .lst (show upd Y.k Dl _ Dl = _ from upd_same) (DaAll.ints _)⟩
      · rw [set_getD (by omega)]
        by_cases e : j = pl.toNat
        · rw [if_pos e, if_pos e, ← e, hhat j hj]
          omega
        · rw [if_neg e, if_neg e, hhat j hj]
          omega
      · have e1 : (ns.set pl.toNat (ns.getD pl.toNat 0 + 4 - 8 * t)).sum = ns.sum + (4 - 8 * t) := by
          rw [sum_tab (by rw [List.length_set, hnl]), sum_tab hnl]
          have e2 : S (fun i => (ns.set pl.toNat (ns.getD pl.toNat 0 + 4 - 8 * t)).getD i 0) = S fun i => ns.getD i 0 + (if i = pl.toNat then 4 - 8 * t else 0) := S_congr fun i hi => by
            rw [set_getD (by omega)]
            by_cases e : i = pl.toNat
            · rw [if_pos e, if_pos e, ← e]
              omega
            · rw [if_neg e, if_neg e]
              omega
          rw [e2, S_add, S_at (4 - 8 * t) 0 hpl]
          omega
        rw [e1]
        have e3 : ns.sum = 24 * mm + 2 * (wtB (tb nn) : Nat) + 4 * S hh := by
          rw [sum_tab hnl, S_congr hhat, S_add (fun i => mm + 2 * b2 (tb nn i)), S_add (fun _ => mm), S_const, S_mul, S_mul, S_b2]
        have w4 := rig_wt' hnn
        rw [e3] at hs ⊢
        rcases hmm with rfl | rfl <;> rcases ht with rfl | rfl <;> omega
      · rw [set_getD (by omega)]
        have b1 := bnd j hj
        split
        · next e =>
          subst e
          rcases ht with rfl | rfl <;> omega
        · omega
end
end Lo
/-! E13: what is due and what is got. -/
namespace Lo
open PySem PySem.Spec L2 Evl PyProof.Rows

section
variable {K : PySem.W.Frag} {A A0 B C : Hd} {p q l : Addr} {n m : Nat} {o : HO} {σ : L2.St} {δ : De} {i : Nat} {te : TE} {ta : TA} {t : TS} {S : PyData → Prop} {SA : List PyData → Prop} {D : Ends} {d : PyData} {oc : Oc} {ds : List PyData} {xs : List V}
theorem std_i (k : KnS K σ B.k δ) (q : Oc.ok K B D oc) (h : StD K t δ oc) : t D σ B.h := h σ B k D q
/-- name, name = drawn value, drawn value -/
theorem m_par {a c : Nat} (h : EvMA K ta δ i m SA) (h2 : ∀ ds, SA ds → ∃ x y, ds = [x, y]) (k : KnS K σ A.k δ) (s : σ[i]? = some (some (.ref p))) (t : Tn A p n) (hn : n + m ≤ 100000) (ha : a ≠ i) (hc : c ≠ i)
    (q : ∀ σ' x y B, SA [x, y] → Pm p A B → Tn B p (n + m) → KnS K σ' B.k ((δ.set a (some x)).set c (some y)) → σ'[i]? = some (some (.ref p)) → D.nx σ' B.h) : tPar a c ta D σ A.h :=
  h σ A p n k s t hn _ fun vs ds B e t1 s1 hv => by
    obtain ⟨x, y, rfl⟩ := h2 ds s1
    obtain ⟨v, w, rfl, hv1, hw⟩ := hv.two
    exact ⟨v, w, rfl, q _ x y B s1 e t1 (((k.ex e.k).set hv1).set hw) ((List.getElem?_set_ne hc).trans ((List.getElem?_set_ne ha).trans s))⟩
theorem ints_of {ds : List PyData} {N : Nat} (hl : ds.length = N) (h : ∀ j, j < N → ∃ i : Int, ds.getD j .none = .int i) : ∃ ns : List Int, ns.length = N ∧ ds = ns.map PyData.int := by
  refine ⟨ds.map toI, by rw [List.length_map, hl], List.ext_getElem? fun j => ?_⟩
  by_cases hj : j < ds.length
  · obtain ⟨i, h1⟩ := h j (by omega)
    rw [List.getD_eq_getElem?_getD, List.getElem?_eq_getElem hj] at h1
    have h1' : ds[j] = .int i := h1
    rw [List.getElem?_map, List.getElem?_map, List.getElem?_eq_getElem hj, h1']
    rfl
  · rw [List.getElem?_eq_none (by omega), List.getElem?_eq_none (by rw [List.length_map, List.length_map]; omega)]
/-- a tuple of drawn numbers -/
theorem m_row {wi : TI} {g : TG} {vs : List Nat} {ε : Nat → List (Nat × PyData)} {r : List V → Hp → VK → Prop} (hs : SrcD K wi g δ 24 ε) (hv : ∀ j, ∀ p ∈ ε j, p.1 ∈ vs) (hi : i ∉ vs) (he : ∀ j, j < 24 → EvM K te (sets (wipeD δ vs) (ε j)) i 1 (fun d => ∃ z : Int, d = .int z))
    (hr : ∀ ds : List PyData, RDC K r [.list ds] (.tuple ds)) : EvM K (tCB r (tCons (tLc wi g tYes te vs) tNil)) δ i 24 (fun d => ∃ ns : List Int, ns.length = 24 ∧ d = ti ns) := by
  refine m_cb (m := 24) (m_cons (m1 := 24) (m2 := 0) (m_lc (m := 1) hs (by decide) hv hi he) m_nil) ?_
  rintro _ ⟨x, xs, rfl, ⟨ds, rfl, hl, hS⟩, rfl⟩
  obtain ⟨ns, h1, rfl⟩ := ints_of hl hS
  exact ⟨_, ⟨ns, h1, rfl⟩, hr _⟩
/-- name = [..], with drawn parts, not yet known -/
theorem m_new {j : Nat} (h : EvMA K ta δ i m SA) (hl : ∀ ds, SA ds → ds.length ≤ 100000) (k : KnS K σ A.k δ) (s : σ[i]? = some (some (.ref p))) (t : Tn A p n) (hn : n + m ≤ 100000) (hj : j ≠ i) (hj2 : j < σ.length)
    (q : ∀ (σ' : L2.St) (B : Hd) (l : Addr) (xs : List V) (ds : List PyData), SA ds → Pm p A B → Tn B p (n + m) → A.h l = none → l ≠ p → B.k l = none → B.h l = some (.lst xs) → DaAll K B.k xs ds → KnS K σ' B.k (δ.set j none) → σ'[i]? = some (some (.ref p)) → σ'[j]? = some (some (.ref l)) → D.nx σ' B.h) : tAsg (tLst ta) (gName j) D σ A.h :=
  asg_i (h σ A p n k s t hn _ fun vs ds B e t1 s1 hv => ⟨by rw [hv.len]; exact sz_of (hl ds s1), fun l hl => by
    have hlp : l ≠ p := fun z => by
      subst z
      exact t1.there hl
    have hA : A.h l = none := by
      cases ho : A.h l with
      | none => rfl
      | some o =>
        have := e.h l o hlp ho
        rw [hl] at this
        cases this
    refine q _ (B.mut l (.lst vs) (B.kn hl)) l vs ds s1 ⟨e.k, fun r u h1 h2 => ?_, e.fr, fun h => ?_⟩ ⟨t1.nk, ?_⟩ hA hlp (B.kn hl) upd_same hv (k.ex e.k).setAny ((List.getElem?_set_ne hj).trans s) (by rw [List.getElem?_set, if_pos rfl, if_pos hj2])
    · exact Ex.new hl r u (e.h r u h1 h2)
    · show upd B.h l _ p ≠ none
      rw [upd_ne (Ne.symm hlp)]
      exact e.pp h
    · obtain ⟨x, y, z, h1, h2, h3⟩ := t1.st
      exact ⟨x, y, z, h1, h2, by show upd B.h l _ p = _; rw [upd_ne (Ne.symm hlp)]; exact h3⟩⟩)
/-- .. append a drawn value; from now on it is known -/
theorem m_app {j : Nat} (h : EvM K te δ i m S) (k : KnS K σ A.k δ) (s : σ[i]? = some (some (.ref p))) (sj : σ[j]? = some (some (.ref l))) (t : Tn A p n) (hn : n + m ≤ 100000) (hlp : l ≠ p) (hk : A.k l = none) (hh : A.h l = some (.lst xs)) (hd : DaAll K A.k xs ds) (hx : xs.length < 100000)
    (q : ∀ (B : Hd) (d : PyData), S d → KnS K σ B.k δ → Da K B.k (.ref l) (.list (ds ++ [d])) → D.nx σ B.h) : tDrop (tBM K "list" rAppend (tVar j) (tCons te tNil)) D σ A.h := by
  refine ⟨_, sj, .inl ⟨rfl, _, SqL.of hh⟩, ?_⟩
  refine h σ A p n k s t hn _ fun v d C e t1 s1 hv => ?_
  have hC : C.h l = some (.lst xs) := e.h _ _ hlp hh
  have hCk : C.k l = none := e.fr l hk (fun z => by rw [hh] at z; cases z)
  refine ⟨l, xs, v, rfl, rfl, hC, sz_lt hx, ?_⟩
  have g : Ex C.k (C.both l (.lst (xs ++ [v]))).k := Ex.new hCk
  exact q (C.both l (.lst (xs ++ [v]))) d s1 ((k.ex e.k).ex g) (.lst (show upd C.k l _ l = _ from upd_same) (((hd.ex e.k).app (.cons hv .nil)).ex g))
theorem set_same {i : Nat} {v : V} (h : σ[i]? = some (some v)) : σ.set i (some v) = σ := by
  refine List.ext_getElem? fun j => ?_
  rw [List.getElem?_set]
  split
  · next hj =>
    subst hj
    rw [h]
    split
    · rfl
    · next hn => rw [List.getElem?_eq_none (by omega)] at h; cases h
  · rfl
/-- name = [..], pure, not yet known -/
theorem d_new {j : Nat} (h : EvDA K ta δ ds) (hl : ds.length ≤ 100000) (k : KnS K σ A.k δ) (hj2 : j < σ.length)
    (q : ∀ (σ' : L2.St) (B : Hd) (l : Addr) (xs : List V), B.k l = none → B.h l = some (.lst xs) → DaAll K B.k xs ds → KnS K σ' B.k (δ.set j none) → σ'[j]? = some (some (.ref l)) → D.nx σ' B.h) : tAsg (tLst ta) (gName j) D σ A.h :=
  asg_i (h σ A k _ fun vs B e hv => ⟨by rw [hv.len]; exact sz_of hl, fun l hl => q _ (B.mut l (.lst vs) (B.kn hl)) l vs (B.kn hl) upd_same hv (k.ex e.k).setAny (by rw [List.getElem?_set, if_pos rfl, if_pos hj2])⟩)
/-- list.append(value), the value from the list itself; from now on it is known -/
theorem d_app {j : Nat} {z : Int} (k : KnS K σ A.k δ) (sj : σ[j]? = some (some (.ref l))) (hk : A.k l = none) (hh : A.h l = some (.lst xs)) (hd : DaAll K A.k xs ds) (hx : xs.length < 100000) (h : EvD K te (δ.set j (some (.list ds))) (.int z))
    (q : ∀ B : Hd, KnS K σ B.k δ → Da K B.k (.ref l) (.list (ds ++ [.int z])) → D.nx σ B.h) : tDrop (tBM K "list" rAppend (tVar j) (tCons te tNil)) D σ A.h := by
  refine ⟨_, sj, .inl ⟨rfl, _, SqL.of hh⟩, ?_⟩
  have g0 : Ex A.k (A.learn l _ hh).k := Ex.new hk
  have kl : KnS K σ (A.learn l _ hh).k (δ.set j (some (.list ds))) := by
    have z := (k.ex g0).set (i := j) (v := .ref l) (d := .list ds) (.lst (learn_at hh) (hd.ex g0))
    rwa [set_same sj] at z
  refine h σ (A.learn l _ hh) kl _ fun v B e hv => ?_
  cases hv
  have hB : B.h l = some (.lst xs) := e.h _ _ hh
  refine ⟨l, xs, .int z, rfl, rfl, hB, sz_lt hx, ?_⟩
  have g : Ex A.k ((B.forget l).both l (.lst (xs ++ [.int z]))).k := fun a u ha => by
    have ne : a ≠ l := fun y => by
      rw [y, hk] at ha
      cases ha
    show upd (B.forget l).k l _ a = _
    rw [upd_ne ne, forget_ne ne]
    exact e.k a u (g0 a u ha)
  exact q ((B.forget l).both l (.lst (xs ++ [.int z]))) (k.ex g) (.lst (show upd (B.forget l).k l _ l = _ from upd_same) ((hd.ex g).app (.cons (.int z) .nil)))
end
/-! ### the numbers -/
theorem Drn.bd {ns : List Int} (h : Drn ns) : Bd ns := fun i hi => by
  have := h.2 i hi
  omega
theorem Drn.lng {ns : List Int} (h : Drn ns) : Lng ns := by
  obtain ⟨_, _, _, L⟩ := h.1
  exact L.long
theorem Drn.len {ns : List Int} (h : Drn ns) : ns.length = 24 := h.lng.1
section
variable {ns ms : List Int} {a b : Nat}
theorem sum_len (ns ms : List Int) : (sumR ns ms).length = 24 := len_tab _
theorem sum_lng (h : Drn ns) (h' : Drn ms) : Lng (sumR ns ms) := by
  obtain ⟨_, _, _, L⟩ := h.1
  obtain ⟨_, _, _, L'⟩ := h'.1
  obtain ⟨_, _, _, L2⟩ := L.add L'
  exact L2.long
theorem sum_bd (h : Drn ns) (h' : Drn ms) : Bd (sumR ns ms) := fun i hi => by
  rw [show (sumR ns ms).getD i 0 = ns.getD i 0 + ms.getD i 0 from tab_at hi]
  have h1 := h.2 i hi
  have h2 := h'.2 i hi
  omega
theorem len_sum (h : Drn ns) (h' : Drn ms) : sq ns / 8 + 2 * (dot ns ms / 8) + sq ms / 8 = sq (sumR ns ms) / 8 := by
  obtain ⟨_, _, _, L⟩ := h.1
  obtain ⟨_, _, _, L'⟩ := h'.1
  have e1 := L.dot L
  have e2 := L.dot L'
  have e3 := L'.dot L'
  have e4 : dot ns ns = sq ns := rfl
  have e5 : dot ms ms = sq ms := rfl
  rw [e4] at e1
  rw [e5] at e3
  rw [sq_sum]
  omega
theorem len_four (h : Drn ns) : (!decide (sq ns / 8 = 4)) = !decide (sq ns = 32) := by
  obtain ⟨_, _, _, L⟩ := h.1
  have e1 := L.dot L
  have e4 : dot ns ns = sq ns := rfl
  rw [e4] at e1
  congr 1
  rw [Bool.eq_iff_iff, decide_eq_true_iff, decide_eq_true_iff]
  omega
theorem turn_lng (h : Drn ns) (ha : a ∈ rigS basN) : Lng (turnR (tb a) ns) := by
  obtain ⟨_, _, _, L⟩ := h.1
  obtain ⟨_, _, _, L2⟩ := L.turn ha
  exact L2.long
theorem turn_twice (ns : List Int) (p q : Nat → Bool) : turnR (xorB p q) ns = turnR q (turnR p ns) := by
  unfold turnR tab
  refine List.map_congr_left fun i hi => ?_
  have hi' := List.mem_range.mp hi
  rw [show ((List.range 24).map fun i => if p i = true then - ns.getD i 0 else ns.getD i 0).getD i 0 = if p i = true then - ns.getD i 0 else ns.getD i 0 from tab_at hi']
  unfold xorB
  cases p i <;> cases q i <;> simp
theorem twice_lng (h : Drn ns) : Lng (tab fun i => 2 * ns.getD i 0) := by
  obtain ⟨_, _, _, L⟩ := h.1
  obtain ⟨_, _, _, L2⟩ := L.twice
  exact L2.long
theorem hlf_twice (hl : ns.length = 24) : hlf (tab fun i => 2 * ns.getD i 0) = ns := by
  have e : hlf (tab fun i => 2 * ns.getD i 0) = tab fun i => ns.getD i 0 := by
    unfold hlf
    unfold tab
    refine List.map_congr_left fun i hi => ?_
    rw [show ((List.range 24).map fun i => 2 * ns.getD i 0).getD i 0 = 2 * ns.getD i 0 from tab_at (List.mem_range.mp hi)]
    omega
  rw [e, tab_of hl]
theorem heard_twice (h : Drn ns) : heardD 2 (tab fun i => 2 * ns.getD i 0) = ti ns := by
  have e : noWayB (tab fun i => 2 * ns.getD i 0) = false := by
    unfold noWayB
    rw [hlf_twice h.len, h.lng.2, tab_at (show 0 < 24 by decide), decide_eq_false (by omega)]
    rfl
  show (if noWayB (tab fun i => 2 * ns.getD i 0) = true then heardL "no way" else ti (hlf (tab fun i => 2 * ns.getD i 0))) = ti ns
  rw [if_neg (by rw [e]; decide), hlf_twice h.len]
theorem fine_eq (ns : List Int) : (decide (ns.getD 0 0 % 2 = 0) && isN (breakD (hlf ns))) = !noWayB ns := by
  unfold noWayB
  show (decide (ns.getD 0 0 % 2 = 0) && longB (hlf ns)) = _
  have : ns.getD 0 0 % 2 = 0 ∨ ns.getD 0 0 % 2 = 1 := by omega
  rcases this with e | e <;> rw [e] <;> cases longB (hlf ns) <;> rfl
theorem pl_heard2 (ns : List Int) : Pl 2 (heardD 2 ns) := by
  show Pl 2 (if noWayB ns = true then heardL "no way" else ti (hlf ns))
  split
  · exact pl_heardL (by decide +kernel)
  · exact Pl.ti (by show (tab _).length ≤ 1000; rw [len_tab]; decide)
end
end Lo
/-! E14: the law. -/
namespace Lo
open PySem PySem.Spec L2 Evl PyProof.Rows

/-- the promise of _law_right: true -/
def spR (K : PySem.W.Frag) : Sp := fun vs H Q _ => ∃ (A : Hd) (p : Addr), A.h = H ∧ vs = [.ref p] ∧ Tn A p 0 ∧ ∀ C : Hd, Q (.bl true) C.h
def spLaw (K : PySem.W.Frag) : Sp := fun vs H Q _ => ∃ (a : Addr) (ns : List Int), vs = [.ref a] ∧ SqL K H a (ns.map V.int) ∧ ns.length ≤ 63 ∧ ∀ H', Q (.bl true) H'
section
variable {K : PySem.W.Frag} {A : Hd} {σ : L2.St} {δ : De} {te : TE} {D : Ends} {d : PyData}
/-- name = value -/
theorem p_set {j : Nat} (h : EvD K te δ d) (k : KnS K σ A.k δ) (q : ∀ (σ' : L2.St) (B : Hd), KnS K σ' B.k (δ.set j (some d)) → D.nx σ' B.h) : tAsg te (gName j) D σ A.h :=
  asg_i (h σ A k _ fun v B e hv => q _ B ((k.ex e.k).set hv))
end
theorem d_appS {K : PySem.W.Frag} {A : Hd} {l : Addr} {σ : L2.St} {δ : De} {te : TE} {u : TS} {D : Ends} {ds : List PyData} {xs : List V} {j : Nat} {z : Int} (k : KnS K σ A.k δ) (sj : σ[j]? = some (some (.ref l))) (hk : A.k l = none) (hh : A.h l = some (.lst xs)) (hd : DaAll K A.k xs ds) (hx : xs.length < 100000)
    (h : EvD K te (δ.set j (some (.list ds))) (.int z)) (q : ∀ B : Hd, KnS K σ B.k δ → Da K B.k (.ref l) (.list (ds ++ [.int z])) → u D σ B.h) : tSeq (tDrop (tBM K "list" rAppend (tVar j) (tCons te tNil))) u D σ A.h :=
  seq_i (d_app k sj hk hh hd hx h q)
section
variable {P : Program} {w : World} {K : PySem.W.Frag} {mg : Str → Option Value} {base : Heap}
structure Defs (P : Program) (w : World) (K : PySem.W.Frag) (mg : Str → Option Value) (base : Heap) : Prop where
  board : Dfn P w K mg base CX0 5 "_law_board" [] (spD K RBoard)
  some_ : Dfn P w K mg base CX0 3 "_law_some_long" ["_law_tin", "_law_board_so"] (spT K 28 PSome RSome)
  take : Dfn P w K mg base CX0 1 "_law_take" ["_law_tin", "_law_below_so"] (spT K 1 PTake RTake)
  of_ : Dfn P w K mg base CX0 2 "_law_of" ["_law_tin", "_law_goods_so"] (spT K 1 POf ROf)
  lot : Dfn P w K mg base CX0 1 "_law_lot" ["_law_number_so"] (spD K RLawLot)
  put : Dfn P w K mg base CX0 1 "_law_put" ["_law_row_so", "_law_place_so", "_law_bit_so"] (spD K RLawPut)
  row : Dfn P w K mg base CX0 12 "_law_row_right" ["_law_row_so"] (spD K RRowRight)
  ll : Dfn P w K mg base CX0 10 "long_length" ["long"] (spD K RLongLength)
  lp : Dfn P w K mg base CX0 10 "long_product" ["one", "other"] (spD K RLongProduct)
  ls : Dfn P w K mg base CX0 10 "long_sum" ["one", "other"] (spD K RLongSum)
  lc : Dfn P w K mg base CX0 10 "long_contrary" ["long"] (spD K RLongContrary)
  sh : Dfn P w K mg base CX0 10 "shape_of" ["long"] (spD K RShapeOf)
  st : Dfn P w K mg base CX0 10 "signs_turned" ["long", "lot"] (spD K RTurned)
  il : Dfn P w K mg base CX0 8 "is_long" ["thing"] (spD K RLong)
  len : Dfn P w K mg base CX0 1 "_law_length" ["_law_row_so"] (spD K fun ds d => ∃ ns : List Int, ns.length = 24 ∧ Bd ns ∧ ds = [ti ns] ∧ d = .int (sq ns / 8))
  pr : Dfn P w K mg base CX0 1 "_law_long_product" ["_law_one_so", "_law_two_so"] (spD K fun ds d => ∃ ns ms : List Int, ns.length = 24 ∧ ms.length = 24 ∧ Bd ns ∧ ds = [ti ns, ti ms] ∧ d = .int (dot ns ms / 8))
  sum : Dfn P w K mg base CX0 1 "_law_lot_sum" ["_law_one_so", "_law_two_so"] (spD K RLawLotSum)
  br : Dfn P w K mg base CX0 4 "_law_break" ["_law_row_so"] (spD K RBreak)
  hd : Dfn P w K mg base CX0 11 "_law_heard" ["_law_door", "_law_row_so"] (spD K RHeard)
  same : Dfn P w K mg base CX0 4 "_law_same" ["_law_got", "_law_due"] (spD K (RSame 3))
theorem ok_law_right (F : FunM K mg "_law_right" sLawRight) (T : Blt mg) (G : Defs P w K mg base) : Dfn P w K mg base CX0 13 "_law_right" ["_law_tin"] (spR K) := by
  refine dfn_raw F scLawRight (fun _ _ _ _ _ _ us hl => match us, hl with | [_], _ => rfl) (fun vs H Q E ⟨_, _, _, h, _⟩ => by rw [h]; rfl) ?_
  intro f cdv A outer s H vs Q E hr h
  obtain ⟨A0, p, rfl, rfl, tn, q⟩ := h
  have nd := scLawRight.nd
  have h1 := hr.mono (show 1 ≤ 12 by decide)
  have h2 := hr.mono (show 2 ≤ 12 by decide)
  have h10 := hr.mono (show 10 ≤ 12 by decide)
  refine ⟨_, pss_cons (ps_set (i := 1) nd rfl (Or.inr rfl) (pc0 G.board (hr.mono (by decide))))
    (pss_cons (ps_par (i := 2) (j := 3) rfl nd rfl rfl (by decide) rfl rfl (pa_cons (pc G.some_ (hr.mono (by decide)) (pa_cons (pv 0) (pa_cons (pv 1) pa_nil))) (pa_cons (pc G.some_ (hr.mono (by decide)) (pa_cons (pv 0) (pa_cons (pv 1) pa_nil))) pa_nil)) (by rfl))
    (pss_cons (ps_asg (pe_tup (pa_cons (pc G.take h1 (pa_cons (pv 0) (pa_cons pe_int pa_nil))) (pa_cons (pe_lc (own := [("_law_lap", 15)]) (g := gName 15) (tt := tYes) rfl nd (pi_range1 rfl T.range (pa_cons pe_int pa_nil)) (blkOk_by (N := nLawRight) (sc := defScope sLawRight) (by decide +kernel))
        (fun _ _ _ _ _ => pg_name (i := 15) nd rfl (Or.inl rfl)) (fun _ _ _ _ _ => pts_nil) (fun _ _ _ _ _ => pc G.lot h1 (pa_cons (pc G.of_ h2 (pa_cons (pv 0) (pa_cons (pe_ix (ixTK K) (pv 1) pe_int (fun _ _ => rfl)) pa_nil))) pa_nil))) pa_nil)))
      (pg_tup rfl (pgs_cons (pg_name (i := 4) nd rfl (Or.inl rfl)) (pgs_cons (pg_name (i := 5) nd rfl (Or.inr rfl)) pgs_nil))))
    (pss_cons (ps_set (i := 6) nd rfl (Or.inl rfl) (pc G.put h1 (pa_cons (pv 2) (pa_cons (pv 4) (pa_cons (pe_op op_add (pe_ix ix_tup (pv 2) (pv 4) (fun _ _ => rfl)) (pc G.of_ h2 (pa_cons (pv 0) (pa_cons (pe_lst (pa_cons pe_int (pa_cons (pe_un un_neg pe_int) (pa_cons pe_int (pa_cons (pe_un un_neg pe_int) (pa_cons pe_int (pa_cons pe_int (pa_cons (pe_un un_neg pe_int) pa_nil)))))))) pa_nil)))) pa_nil)))))
    (pss_cons (ps_set (i := 7) nd rfl (Or.inl rfl) (pe_lst (pa_cons (pv 2) (pa_cons (pv 6) (pa_cons (pc G.put h1 (pa_cons (pv 6) (pa_cons pe_int (pa_cons (pe_op op_add (pe_ix ix_tup (pv 6) pe_int (fun _ _ => rfl)) pe_int) pa_nil)))) (pa_cons (pTup T (pe_lc (own := [("_law_lap", 15)]) (g := gName 15) (tt := tYes) rfl nd (pi_range1 rfl T.range (pa_cons pe_int pa_nil))
        (blkOk_by (N := nLawRight) (sc := defScope sLawRight) (by decide +kernel)) (fun _ _ _ _ _ => pg_name (i := 15) nd rfl (Or.inl rfl)) (fun _ _ _ _ _ => pts_nil) (fun _ _ _ _ _ => pe_op op_sub (pc G.take h1 (pa_cons (pv 0) (pa_cons pe_int pa_nil))) pe_int))) pa_nil))))))
    (pss_cons (ps_expr (pe_bm PySem.F.plainAttrs_list PySem.F.slot_list_append PySem.F.type_list_append mt_append (pv 7) (pa_cons (pTup T (pe_lc (own := [("_law_lap", 15)]) (g := gName 15) (tt := tYes) rfl nd (pi_range1 rfl T.range (pa_cons pe_int pa_nil))
        (blkOk_by (N := nLawRight) (sc := defScope sLawRight) (by decide +kernel)) (fun _ _ _ _ _ => pg_name (i := 15) nd rfl (Or.inl rfl)) (fun _ _ _ _ _ => pts_nil) (fun _ _ _ _ _ => pe_op op_sub (pe_op op_mul pe_int (pc G.take h1 (pa_cons (pv 0) (pa_cons pe_int pa_nil)))) pe_int))) pa_nil)))
    (pss_cons (ps_if (pt_not (pt_val (pAll T rfl (pe_lc (own := [("_law_own", 16)]) (g := gName 16) (tt := tYes) rfl nd (pi_list (pv 7)) (blkOk_by (N := nLawRight) (sc := defScope sLawRight) (by decide +kernel))
        (fun _ _ _ _ _ => pg_name (i := 16) nd rfl (Or.inl rfl)) (fun _ _ _ _ _ => pts_nil) (fun _ _ _ _ _ => pc G.row hr (pa_cons (pv 16) pa_nil)))))) (pss_one (ps_ret pe_bl)) pss_nil)
    (pss_cons (ps_set (i := 8) nd rfl (Or.inl rfl) (pTup T (pe_lc (own := [("_law_near_so", 17), ("_law_far_so", 18)]) (g := gTup K 2 (gCons (gName 17) (gCons (gName 18) gNil))) (tt := tYes) rfl nd (RZ.pi_zipA (by rfl) T.zip (pa_cons (pv 2) (pa_cons (pv 3) pa_nil))) (blkOk_by (N := nLawRight) (sc := defScope sLawRight) (by decide +kernel))
        (fun _ _ _ _ _ => pg_tup rfl (pgs_cons (pg_name (i := 17) nd rfl (Or.inl rfl)) (pgs_cons (pg_name (i := 18) nd rfl (Or.inl rfl)) pgs_nil))) (fun _ _ _ _ _ => pts_nil) (fun _ _ _ _ _ => pe_op op_add (pv 17) (pv 18)))))
    (pss_cons (ps_set (i := 9) nd rfl (Or.inl rfl) (pe_lst (pa_cons (pc G.ll h10 (pa_cons (pLst T (pv 2)) pa_nil)) (pa_cons (pc G.lp h10 (pa_cons (pv 2) (pa_cons (pLst T (pv 3)) pa_nil))) (pa_cons (pc G.ls h10 (pa_cons (pLst T (pv 2)) (pa_cons (pv 3) pa_nil))) (pa_cons (pc G.ll h10 (pa_cons (pv 8) pa_nil)) pa_nil))))))
    (pss_cons (ps_set (i := 10) nd rfl (Or.inl rfl) (pe_lst (pa_cons (pc G.len h1 (pa_cons (pv 2) pa_nil)) (pa_cons (pc G.pr h1 (pa_cons (pv 2) (pa_cons (pv 3) pa_nil))) (pa_cons (pv 8) pa_nil)))))
    (pss_cons (ps_expr (pe_bm PySem.F.plainAttrs_list PySem.F.slot_list_append PySem.F.type_list_append mt_append (pv 10) (pa_cons (pe_op op_add (pe_op op_add (pe_ix ix_list (pv 10) pe_int (fun _ _ => rfl)) (pe_op op_mul pe_int (pe_ix ix_list (pv 10) pe_int (fun _ _ => rfl)))) (pc G.len h1 (pa_cons (pv 3) pa_nil))) pa_nil)))
    (pss_cons (ps_set (i := 9) nd rfl (Or.inl rfl) (pe_op op_cat (pv 9) (pe_lst (pa_cons (pc G.lc h10 (pa_cons (pv 3) pa_nil)) (pa_cons (pe_cmpR op_isN (pc G.sh h10 (pa_cons (pv 2) pa_nil)) pe_non (nomark _)) pa_nil)))))
    (pss_cons (ps_set (i := 10) nd rfl (Or.inl rfl) (pe_op op_cat (pv 10) (pe_lst (pa_cons (pTup T (pe_lc (own := [("_law_own", 16)]) (g := gName 16) (tt := tYes) rfl nd (pi_tup (pv 3)) (blkOk_by (N := nLawRight) (sc := defScope sLawRight) (by decide +kernel))
        (fun _ _ _ _ _ => pg_name (i := 16) nd rfl (Or.inl rfl)) (fun _ _ _ _ _ => pts_nil) (fun _ _ _ _ _ => pe_un un_neg (pv 16)))) (pa_cons (pe_cmpR (op_neD hr.units) (pc G.len h1 (pa_cons (pv 2) pa_nil)) pe_int (nomark _)) pa_nil)))))
    (pss_cons (ps_set (i := 11) nd rfl (Or.inl rfl) (pTup T (pe_lc (own := [("_law_k", 19), ("_law_own", 16)]) (g := gTup K 2 (gCons (gName 19) (gCons (gName 16) gNil))) (tt := tYes) rfl nd (pi_enumT (by rfl) T.enum (pa_cons (pv 2) pa_nil)) (blkOk_by (N := nLawRight) (sc := defScope sLawRight) (by decide +kernel))
        (fun _ _ _ _ _ => pg_tup rfl (pgs_cons (pg_name (i := 19) nd rfl (Or.inl rfl)) (pgs_cons (pg_name (i := 16) nd rfl (Or.inl rfl)) pgs_nil))) (fun _ _ _ _ _ => pts_nil) (fun _ _ _ _ _ => pe_ifExp (pt_cmpR (inK K) (pv 19) (pe_ix (ixLK K) (pv 5) pe_int (fun _ _ => rfl)) rfl) (pe_un un_neg (pv 16)) (pv 16)))))
    (pss_cons (ps_set (i := 12) nd rfl (Or.inl rfl) (pTup T (pe_lc (own := [("_law_k", 19), ("_law_own", 16)]) (g := gTup K 2 (gCons (gName 19) (gCons (gName 16) gNil))) (tt := tYes) rfl nd (pi_enumT (by rfl) T.enum (pa_cons (pv 11) pa_nil)) (blkOk_by (N := nLawRight) (sc := defScope sLawRight) (by decide +kernel))
        (fun _ _ _ _ _ => pg_tup rfl (pgs_cons (pg_name (i := 19) nd rfl (Or.inl rfl)) (pgs_cons (pg_name (i := 16) nd rfl (Or.inl rfl)) pgs_nil))) (fun _ _ _ _ _ => pts_nil) (fun _ _ _ _ _ => pe_ifExp (pt_cmpR (inK K) (pv 19) (pe_ix (ixLK K) (pv 5) pe_int (fun _ _ => rfl)) rfl) (pe_un un_neg (pv 16)) (pv 16)))))
    (pss_cons (ps_set (i := 9) nd rfl (Or.inl rfl) (pe_op op_cat (pv 9) (pe_lst (pa_cons (pc G.st h10 (pa_cons (pv 2) (pa_cons (pLst T (pe_ix ix_list (pv 5) pe_int (fun _ _ => rfl))) pa_nil))) (pa_cons (pc G.il (hr.mono (by decide)) (pa_cons (pv 11) pa_nil)) (pa_cons (pc G.st h10 (pa_cons (pv 11) (pa_cons (pe_ix ix_list (pv 5) pe_int (fun _ _ => rfl)) pa_nil)))
        (pa_cons (pc G.st h10 (pa_cons (pLst T (pv 2)) (pa_cons (pc G.sum h1 (pa_cons (pe_ix ix_list (pv 5) pe_int (fun _ _ => rfl)) (pa_cons (pe_ix ix_list (pv 5) pe_int (fun _ _ => rfl)) pa_nil))) pa_nil))) pa_nil)))))))
    (pss_cons (ps_set (i := 10) nd rfl (Or.inl rfl) (pe_op op_cat (pv 10) (pe_lst (pa_cons (pv 11) (pa_cons pe_bl (pa_cons (pv 12) (pa_cons (pv 12) pa_nil)))))))
    (pss_cons (ps_set (i := 13) nd rfl (Or.inl rfl) (pTup T (pe_lc (own := [("_law_own", 16)]) (g := gName 16) (tt := tYes) rfl nd (pi_tup (pv 2)) (blkOk_by (N := nLawRight) (sc := defScope sLawRight) (by decide +kernel))
        (fun _ _ _ _ _ => pg_name (i := 16) nd rfl (Or.inl rfl)) (fun _ _ _ _ _ => pts_nil) (fun _ _ _ _ _ => pe_op op_fdiv (pv 16) pe_int))))
    (pss_cons (ps_set (i := 14) nd rfl (Or.inl rfl) (pe_and (pe_cmpR (op_eqD hr.units) (pe_op op_mod (pInt T (pe_ix ix_tup (pv 2) pe_int (fun _ _ => rfl))) pe_int) pe_int (nomark _)) (pe_one (pe_cmpR op_isN (pc G.br (hr.mono (by decide)) (pa_cons (pv 13) pa_nil)) pe_non (nomark _)))))
    (pss_cons (ps_set (i := 9) nd rfl (Or.inl rfl) (pe_op op_cat (pv 9) (pe_lst (pa_cons (pc G.hd (hr.mono (by decide)) (pa_cons pe_int (pa_cons (pe_lc (own := [("_law_own", 16)]) (g := gName 16) (tt := tYes) rfl nd (pi_tup (pv 2)) (blkOk_by (N := nLawRight) (sc := defScope sLawRight) (by decide +kernel))
        (fun _ _ _ _ _ => pg_name (i := 16) nd rfl (Or.inl rfl)) (fun _ _ _ _ _ => pts_nil) (fun _ _ _ _ _ => pe_op op_mul pe_int (pv 16))) pa_nil))) (pa_cons (pc G.hd (hr.mono (by decide)) (pa_cons pe_int (pa_cons (pv 2) pa_nil))) pa_nil)))))
    (pss_one (ps_ret (pc G.same (hr.mono (by decide)) (pa_cons (pv 9) (pa_cons (pe_op op_cat (pv 10) (pe_lst (pa_cons (pv 2) (pa_cons (pe_ifExp (pt_val (pv 14)) (pv 13) (pe_lst (pa_cons pe_str (pa_cons pe_bl pa_nil)))) pa_nil)))) pa_nil)))))))))))))))))))))))), ?_⟩
  have kn : KnS K (L2.start nLawRight [.ref p]) A0.k (none :: (([] : List PyData).map some ++ List.replicate 19 none)) := KnS.startT (N := nLawRight) .nil
  -- the board
  refine seq_i (m_set (K := K) (i := 0) (m := 0) (j := 1) (m_pure (d := boardD) (d_call da_nil ⟨rfl, rfl⟩)) kn rfl tn (by decide) (by decide) fun σ1 d1 B1 hd1 e1 t1 k1 s1 _ => ?_)
  subst hd1
  -- two long rows
  refine seq_i (m_par (K := K) (i := 0) (m := 56) (m_cons (m1 := 28) (m2 := 28) (m_draw (Pre := PSome) (R := RSome) (da_cons (d_var (i := 1) rfl) da_nil) rfl) (m_cons (m1 := 28) (m2 := 0) (m_draw (Pre := PSome) (R := RSome) (da_cons (d_var (i := 1) rfl) da_nil) rfl) m_nil)) (fun ds ⟨x, xs, e, _, y, ys, e2, _, e3⟩ => ⟨x, y, by rw [e, e2, e3]⟩) k1 s1 t1 (by decide) (by decide) (by decide)
    fun σ2 x y B2 hs e2 t2 k2 s2 => ?_)
  obtain ⟨x', xs', ee, ⟨ns, hD, rfl⟩, y', ys', ee2, ⟨ms, hD', rfl⟩, rfl⟩ := hs
  obtain ⟨rfl, rfl⟩ := List.cons.inj ee
  obtain ⟨rfl, _⟩ := List.cons.inj ee2
  have hnl := hD.len
  have hml := hD'.len
  -- a place, two lots
  refine seq_i (m_asg2 (K := K) (i := 0) (m := 3) (m_cons (m1 := 1) (m2 := 2) (m_take (d_int (i := 24)) (by decide) (by decide)) (m_cons (m1 := 2) (m2 := 0) (m_lc (m := 1) (Sj := fun _ x => ∃ n ∈ rigS basN, x = lotOf n) (w_rng1 (n := 15) (m := 2) (da_cons d_int da_nil) (by decide)) (by decide) own1 (by decide) (fun j hj => m_lot (d_op (d_var (i := 1) rfl) d_int (rd_ixT rfl)))) m_nil))
    (fun ds ⟨x, xs, e, _, y, ys, e2, _, e3⟩ => ⟨x, y, by rw [e, e2, e3]⟩) k2 s2 t2 (by decide) (by decide) (by decide) fun σ3 x y B3 hs e3 t3 k3 s3 => ?_)
  obtain ⟨x', xs', ee, ⟨pl, hp0, hp1, rfl⟩, y', ys', ee2, ⟨lds, rfl, hll, hlS⟩, rfl⟩ := hs
  obtain ⟨rfl, rfl⟩ := List.cons.inj ee
  obtain ⟨rfl, _⟩ := List.cons.inj ee2
  obtain ⟨pk, rfl⟩ : ∃ k : Nat, pl = (k : Nat) := ⟨pl.toNat, by omega⟩
  have hpk : pk < 24 := by omega
  obtain ⟨a, ha, eqa⟩ := hlS 0 (by decide)
  obtain ⟨b, hb, eqb⟩ := hlS 1 (by decide)
  have hlds : lds = [lotOf a, lotOf b] := by
    match lds, hll with
    | [u, v], _ =>
      have h1 : u = lotOf a := eqa
      have h2 : v = lotOf b := eqb
      rw [h1, h2]
  subst hlds
  -- the bent row
  have goods : ∀ δ : De, EvD K _ δ (li [1, -1, 2, -2, 4, 8, -4]) := fun δ => d_lst (da_cons (d_int (i := 1)) (da_cons (d_un (d_int (i := 1)) r1_neg) (da_cons (d_int (i := 2)) (da_cons (d_un (d_int (i := 2)) r1_neg) (da_cons (d_int (i := 4)) (da_cons (d_int (i := 8)) (da_cons (d_un (d_int (i := 4)) r1_neg) da_nil))))))) (by show (7 : Nat) ≤ 100000; decide)
  refine seq_i (m_set (K := K) (i := 0) (m := 1) (j := 6) (S := fun d => ∃ bs : List Int, bs.length = 24 ∧ d = ti bs) (m_call (R := RLawPut) (m := 1) (m_cons (m1 := 0) (m2 := 1) (m_pure (d := ti ns) (d_var (i := 2) rfl)) (m_cons (m1 := 0) (m2 := 1) (m_pure (d := .int (pk : Nat)) (d_var (i := 4) rfl)) (m_cons (m1 := 1) (m2 := 0) (S := fun d => ∃ z : Int, d = .int z)
    (m_op (m1 := 0) (m2 := 1) (m_pure (d := .int (ns.getD pk 0)) (d_op (d_var (i := 2) rfl) (d_var (i := 4) rfl) (rd_at (by omega)))) (m_draw (Pre := POf) (R := ROf) (da_cons (goods _) da_nil) ⟨_, by decide, by decide, rfl⟩) ?_) m_nil))) ?_) k3 s3 t3 (by decide) (by decide) fun σ4 d4 B4 hd4 e4 t4 k4 s4 _ => ?_)
  · rintro x y rfl ⟨gs, eg, hy⟩
    have eg2 : gs = ([1, -1, 2, -2, 4, 8, -4] : List Int).map PyData.int := (PyData.list.inj (List.cons.inj eg).1).symm
    rw [eg2] at hy
    obtain ⟨z, _, rfl⟩ := List.mem_map.mp hy
    exact ⟨_, ⟨_, rfl⟩, rd_int (f := fun i j => i + j)⟩
  · rintro ds ⟨x, xs, rfl, rfl, y, ys, rfl, rfl, u, us, rfl, ⟨z, rfl⟩, rfl⟩
    exact ⟨ti (ns.set pk z), ⟨_, by rw [List.length_set, hnl], rfl⟩, ns, pk, z, hnl, hpk, rfl, rfl⟩
  obtain ⟨bs, hbl, rfl⟩ := hd4
  -- the rows
  have l4 : σ4.length = 20 := k4.1
  have tk : ∀ (δ : De) (c : Int), 1 ≤ c → c ≤ 5000 → EvM K (tCall (spT K 1 PTake RTake) [] E0 (tCons (tVar 0) (tCons (tC (.int c)) tNil))) δ 0 1 (fun d => ∃ j : Int, 0 ≤ j ∧ j < c ∧ d = .int j) := fun δ c h1 h2 => m_take (d_int (i := c)) h1 h2
  refine seq_i (m_new (K := K) (i := 0) (m := 24) (j := 7) (m_cons (m1 := 0) (m2 := 24) (m_pure (d := ti ns) (d_var (i := 2) rfl)) (m_cons (m1 := 0) (m2 := 24) (m_pure (d := ti bs) (d_var (i := 6) rfl)) (m_cons (m1 := 0) (m2 := 24) (m_pure (d := ti (bs.set 0 (bs.getD 0 0 + 2))) (d_call (R := RLawPut) (da_cons (d_var (i := 6) rfl) (da_cons (d_int (i := 0))
      (da_cons (d_op (d_op (d_var (i := 6) rfl) (d_int (i := 0)) (rd_at0 (by omega))) (d_int (i := 2)) (rd_int (f := fun i j => i + j))) da_nil))) ⟨bs, 0, _, hbl, by decide, rfl, rfl⟩))
      (m_cons (m1 := 24) (m2 := 0) (m_row (w_rng1 (n := 15) (m := 24) (da_cons (d_int (i := 24)) da_nil) (by decide)) own1 (by decide) (fun j hj => m_op (m1 := 1) (m2 := 0) (tk _ 41 (by decide) (by decide)) (m_pure (d_int (i := 20))) ?_) fun ds => rc_tupL) m_nil)))) ?_ k4 s4 t4 (by decide) (by decide) (by omega)
    fun σ5 B5 l xs ds hds e5 t5 _ hlp hlk hlh hla k5 s5 s57 => ?_)
  · rintro x y ⟨t, _, _, rfl⟩ rfl
    exact ⟨_, ⟨_, rfl⟩, rd_int (f := fun i j => i - j)⟩
  · rintro ds ⟨x, xs, rfl, _, y, ys, rfl, _, z, zs, rfl, _, u, us, rfl, _, rfl⟩
    show (4 : Nat) ≤ 100000
    decide
  obtain ⟨x, xs', rfl, rfl, y, ys', rfl, rfl, z, zs', rfl, rfl, u, us', rfl, ⟨r4, hr4, rfl⟩, rfl⟩ := hds
  -- one more row
  refine seq_i (m_app (K := K) (i := 0) (m := 24) (j := 7) (S := fun d => ∃ ns : List Int, ns.length = 24 ∧ d = ti ns) (m_row (w_rng1 (n := 15) (m := 24) (da_cons (d_int (i := 24)) da_nil) (by decide)) own1 (by decide) (fun j hj => m_op (m1 := 1) (m2 := 0) (S1 := fun d => ∃ z : Int, d = .int z) (m_op (m1 := 0) (m2 := 1) (m_pure (d_int (i := 4))) (tk _ 9 (by decide) (by decide)) ?_) (m_pure (d_int (i := 16))) ?_) fun ds => rc_tupL)
    k5 s5 s57 t5 (by decide) hlp hlk hlh hla (by rw [hla.len]; show (4 : Nat) < 100000; decide) fun B6 d6 hd6 k6 hv6 => ?_)
  · rintro x y rfl ⟨t, _, _, rfl⟩
    exact ⟨_, ⟨_, rfl⟩, rd_intC (C := CMul) (f := fun i j => i * j) (.inl ⟨by decide, by decide⟩)⟩
  · rintro x y ⟨t, rfl⟩ rfl
    exact ⟨_, ⟨_, rfl⟩, rd_int (f := fun i j => i - j)⟩
  obtain ⟨r5, hr5, rfl⟩ := hd6
  have k7 := k6.set (i := 7) hv6
  rw [set_same s57] at k7
  let rowsL : List (List Int) := [ns, bs, bs.set 0 (bs.getD 0 0 + 2), r4, r5]
  have hrows : ∀ r ∈ rowsL, r.length = 24 := by
    intro r hr'
    simp only [rowsL, List.mem_cons, List.not_mem_nil, or_false] at hr'
    rcases hr' with rfl | rfl | rfl | rfl | rfl
    · exact hnl
    · exact hbl
    · rw [List.length_set, hbl]
    · exact hr4
    · exact hr5
  have k8 : KnS K σ5 B6.k [none, some boardD, some (ti ns), some (ti ms), some (.int (pk : Nat)), some (.list [lotOf a, lotOf b]), some (ti bs), some (.list (rowsL.map ti)), none, none, none, none, none, none, none, none, none, none, none, none] := k7
  -- all rows are right
  have src7 := w_list (K := K) (n := 16) (δ := [none, some boardD, some (ti ns), some (ti ms), some (.int (pk : Nat)), some (.list [lotOf a, lotOf b]), some (ti bs), some (.list (rowsL.map ti)), none, none, none, none, none, none, none, none, none, none, none, none]) (d_var (i := 7) rfl)
  refine seq_i (ifF_i (A := B6) (EvB.to (b_not (b_B (d_all (n := rowsL.length) (f := fun _ => true) (d_lc (val := fun _ => .bool true) src7 (by show (5 : Nat) ≤ 50000; decide) own1 (fun i hi => b_yes) (fun i hi _ => ?_))))) rfl) k8 fun B7 e7 => ?_)
  · have hi' : i < rowsL.length := hi
    have er : (rowsL.map ti).getD i .none = ti (rowsL.getD i []) := by
      rw [List.getD_eq_getElem?_getD, List.getElem?_map, List.getD_eq_getElem?_getD, List.getElem?_eq_getElem hi']
      rfl
    rw [er]
    exact d_call (da_cons (d_var rfl) da_nil) ⟨_, hrows _ (by
      rw [List.getD_eq_getElem?_getD, List.getElem?_eq_getElem hi']
      exact List.getElem_mem hi'), rfl, rfl⟩
  have k9 := k8.ex e7.k
  have lstT : ∀ {δ : De} {te : TE} {xs : List Int}, EvD K te δ (ti xs) → EvD K _ δ (li xs) := fun h => d_cb (da_cons h da_nil) rc_listT
  -- both
  refine seq_i (p_set (K := K) (A := B7) (d := ti (sumR ns ms)) (d_cb (da_cons (EvD.to (z := li (sumR ns ms)) (d_lc (srcZ hnl hml (da_cons (d_var (i := 2) rfl) (da_cons (d_var (i := 3) rfl) da_nil))) (by decide) own2 (fun i hi => b_yes) (fun i hi _ => d_op (d_var rfl) (d_var rfl) rd_int)) (congrArg PyData.list (given_tab _))) da_nil) rc_tupL) k9 fun σ8 B8 k10 => ?_)
  -- got
  refine seq_i (p_set (K := K) (A := B8) (d := .list [.int (sq ns / 8), .int (dot ns ms / 8), ti (sumR ns ms), .int (sq (sumR ns ms) / 8)]) (d_lst (da_cons (d_call (da_cons (lstT (d_var (i := 2) rfl)) da_nil) ⟨ns, _, hD.lng, hD.bd, .inr rfl, rfl, rfl⟩)
    (da_cons (d_call (da_cons (d_var (i := 2) rfl) (da_cons (lstT (d_var (i := 3) rfl)) da_nil)) ⟨ns, ms, _, _, hD.lng, hD'.lng, hD.bd, .inl rfl, .inr rfl, rfl, rfl⟩) (da_cons (d_call (da_cons (lstT (d_var (i := 2) rfl)) (da_cons (d_var (i := 3) rfl) da_nil)) ⟨ns, ms, _, _, hD.lng, hD'.lng, .inr rfl, .inl rfl, rfl, rfl⟩)
    (da_cons (d_call (da_cons (d_var (i := 8) rfl) da_nil) ⟨sumR ns ms, _, sum_lng hD hD', sum_bd hD hD', .inl rfl, rfl, rfl⟩) da_nil)))) (by show (4 : Nat) ≤ 100000; decide)) k10 fun σ9 B9 k11 => ?_)
  -- due
  have l9 : σ9.length = 20 := k11.1
  refine seq_i (d_new (K := K) (A := B9) (ds := [.int (sq ns / 8), .int (dot ns ms / 8), ti (sumR ns ms)]) (da_cons (d_call (da_cons (d_var (i := 2) rfl) da_nil) ⟨ns, hnl, hD.bd, rfl, rfl⟩) (da_cons (d_call (da_cons (d_var (i := 2) rfl) (da_cons (d_var (i := 3) rfl) da_nil)) ⟨ns, ms, hnl, hml, hD.bd, rfl, rfl⟩) (da_cons (d_var (i := 8) rfl) da_nil)))
    (by show (3 : Nat) ≤ 100000; decide) k11 (by omega) fun σa Ba l2 xs2 lk2 lh2 la2 ka sa => ?_)
  refine d_appS (K := K) (z := sq ns / 8 + 2 * (dot ns ms / 8) + sq ms / 8) ka sa lk2 lh2 la2 (by rw [la2.len]; show (3 : Nat) < 100000; decide) (d_op (d_op (d_op (d_var (i := 10) rfl) (d_int (i := 0)) (rd_ixL rfl)) (d_op (d_int (i := 2)) (d_op (d_var (i := 10) rfl) (d_int (i := 1)) (rd_ixL rfl)) (rd_intC (C := CMul) (f := fun i j => i * j) (.inl ⟨by decide, by decide⟩))) (rd_int (f := fun i j => i + j)))
    (d_call (da_cons (d_var (i := 3) rfl) da_nil) ⟨ms, hml, hD'.bd, rfl, rfl⟩) (rd_int (f := fun i j => i + j))) fun Bb kb hvb => ?_
  have kc := kb.set (i := 10) hvb
  rw [set_same sa] at kc
  rw [len_sum hD hD'] at kc
  let G4 : List PyData := [.int (sq ns / 8), .int (dot ns ms / 8), ti (sumR ns ms), .int (sq (sumR ns ms) / 8)]
  have kd : KnS K σa Bb.k [none, some boardD, some (ti ns), some (ti ms), some (.int (pk : Nat)), some (.list [lotOf a, lotOf b]), some (ti bs), some (.list (rowsL.map ti)), some (ti (sumR ns ms)), some (.list G4), some (.list G4), none, none, none, none, none, none, none, none, none] := kc
  refine (?main : StD K (tSeq (tAsg _ _) _) _ (.ret (.bool true))) σa Bb kd _ ?fin
  case fin =>
    intro v B e hv
    cases hv
    exact q B
  -- the shape
  have shp : ∃ d, RShapeOf [ti ns] d ∧ isN d = !decide (sq ns = 32) := by
    by_cases h32 : sq ns = 32
    · obtain ⟨_, _, _, L⟩ := hD.1
      obtain ⟨t, z, h1, h2⟩ := shape_ex L h32
      exact ⟨.str z, ⟨ns, hD.lng, hD.bd, rfl, .inr ⟨h32, t, z, h1, h2, rfl⟩⟩, by rw [decide_eq_true h32]; rfl⟩
    · exact ⟨.none, ⟨ns, hD.lng, hD.bd, rfl, .inl ⟨h32, rfl⟩⟩, by rw [decide_eq_false h32]; rfl⟩
  obtain ⟨sd, hsd, hsn⟩ := shp
  have hta := turn_lng hD ha
  have htal : (turnR (tb a) ns).length = 24 := len_tab _
  have two : ∀ x y : PyData, [x, y].length ≤ 100000 := fun x y => by show (2 : Nat) ≤ 100000; decide
  let G6 : List PyData := G4 ++ [ti (negR ms), .bool (!decide (sq ns = 32))]
  let G10 : List PyData := G6 ++ [ti (turnR (tb a) ns), .bool true, ti (turnR (tb b) (turnR (tb a) ns)), ti (turnR (tb b) (turnR (tb a) ns))]
  let G12 : List PyData := G10 ++ [ti ns, heardD 2 ns]
  refine s_seq (s_set (d := .list G6) (d_op (d_var rfl) (d_lst (da_cons (d_call (da_cons (d_var rfl) da_nil) ⟨ms, _, hD'.lng, .inl rfl, rfl, rfl⟩) (da_cons (EvD.to (d_op (d_call (da_cons (d_var rfl) da_nil) hsd) d_non rd_isN) (congrArg PyData.bool hsn)) da_nil)) (two _ _)) (rd_catL (by show (4 + 2 : Nat) ≤ 100000; decide)))) ?_
  refine s_seq (s_set (d := .list G6) (d_op (d_var rfl) (d_lst (da_cons (d_cb (da_cons (EvD.to (z := li (negR ms)) (d_lc (src1 hml (d_var rfl)) (by decide) own1 (fun i hi => b_yes) (fun i hi _ => d_un (d_var rfl) r1_neg)) (congrArg PyData.list (given_tab _))) da_nil) rc_tupL)
    (da_cons (EvD.to (d_op (d_call (da_cons (d_var rfl) da_nil) ⟨ns, hnl, hD.bd, rfl, rfl⟩) d_int rd_neI) (congrArg PyData.bool (len_four hD))) da_nil)) (two _ _)) (rd_catL (by show (4 + 2 : Nat) ≤ 100000; decide)))) ?_
  have turned : ∀ (i j : Nat) (c : Nat) (xs : List Int) (δ : De), xs.length = 24 → δ.length = 20 → True := fun _ _ _ _ _ _ _ => trivial
  refine s_seq (s_set (d := ti (turnR (tb a) ns)) (d_cb (da_cons (EvD.to (z := li (turnR (tb a) ns)) (d_lc (srcE hnl (da_cons (d_var (i := 2) rfl) da_nil)) (by decide) own2 (fun i hi => b_yes) (fun i hi _ => d_if (b_test (d_op (d_var rfl) (d_op (d_var rfl) d_int (rd_ixL (d := lotOf a) rfl)) rd_inT)) (fun hc => ?_) fun hc => ?_)) (congrArg PyData.list (given_tab _))) da_nil) rc_tupL)) ?_
  · rw [mem_Lp_iff hi] at hc
    rw [if_pos hc]
    exact d_un (d_var rfl) r1_neg
  · rw [mem_Lp_iff hi] at hc
    rw [if_neg (by rw [hc]; decide)]
    exact d_var rfl
  refine s_seq (s_set (d := ti (turnR (tb b) (turnR (tb a) ns))) (d_cb (da_cons (EvD.to (z := li (turnR (tb b) (turnR (tb a) ns))) (d_lc (srcE htal (da_cons (d_var (i := 11) rfl) da_nil)) (by decide) own2 (fun i hi => b_yes) (fun i hi _ => d_if (b_test (d_op (d_var rfl) (d_op (d_var rfl) d_int (rd_ixL (d := lotOf b) rfl)) rd_inT)) (fun hc => ?_) fun hc => ?_)) (congrArg PyData.list (given_tab _))) da_nil) rc_tupL)) ?_
  · rw [mem_Lp_iff hi] at hc
    rw [if_pos hc]
    exact d_un (d_var rfl) r1_neg
  · rw [mem_Lp_iff hi] at hc
    rw [if_neg (by rw [hc]; decide)]
    exact d_var rfl
  have ra := rig_right a ha
  have rb := rig_right b hb
  refine s_seq (s_set (d := .list G10) (d_op (d_var rfl) (d_lst (da_cons (d_call (da_cons (d_var rfl) (da_cons (lstT (d_op (d_var rfl) d_int (rd_ixL (d := lotOf a) rfl))) da_nil)) ⟨ns, tb a, _, _, hD.lng, ra, .inl rfl, .inr rfl, rfl, rfl⟩) (da_cons (EvD.to (d_call (da_cons (d_var rfl) da_nil) ⟨_, htal, .inl ⟨rfl, rfl⟩⟩) (congrArg PyData.bool hta.2))
    (da_cons (d_call (da_cons (d_var rfl) (da_cons (d_op (d_var rfl) d_int (rd_ixL (d := lotOf b) rfl)) da_nil)) ⟨_, tb b, _, _, hta, rb, .inl rfl, .inl rfl, rfl, rfl⟩) (da_cons (EvD.to (d_call (da_cons (lstT (d_var rfl)) (da_cons (d_call (da_cons (d_op (d_var rfl) d_int (rd_ixL (d := lotOf a) rfl)) (da_cons (d_op (d_var rfl) d_int (rd_ixL (d := lotOf b) rfl)) da_nil)) ⟨tb a, tb b, rfl, rfl⟩) da_nil))
      ⟨ns, xorB (tb a) (tb b), _, _, hD.lng, right_xor ra rb, .inr rfl, .inl rfl, rfl, rfl⟩) (congrArg ti (turn_twice ns (tb a) (tb b)))) da_nil)))) (by show (4 : Nat) ≤ 100000; decide)) (rd_catL (by show (6 + 4 : Nat) ≤ 100000; decide)))) ?_
  refine s_seq (s_set (d := .list G10) (d_op (d_var rfl) (d_lst (da_cons (d_var rfl) (da_cons d_bl (da_cons (d_var rfl) (da_cons (d_var rfl) da_nil)))) (by show (4 : Nat) ≤ 100000; decide)) (rd_catL (by show (6 + 4 : Nat) ≤ 100000; decide)))) ?_
  refine s_seq (s_set (d := ti (hlf ns)) (d_cb (da_cons (EvD.to (z := li (hlf ns)) (d_lc (src1 hnl (d_var rfl)) (by decide) own1 (fun i hi => b_yes) (fun i hi _ => d_op (d_var rfl) d_int (rd_intC ⟨by decide, by decide⟩))) (congrArg PyData.list (given_tab _))) da_nil) rc_tupL)) ?_
  have m2 : (0 : Int) < 2 := by decide
  refine s_seq (s_set (d := .bool (!noWayB ns)) (EvD.to (d_andV (d_op (d_op (d_cb (da_cons (d_op (d_var rfl) d_int (rd_at0 (by omega))) da_nil) rc_int) d_int (rd_intC (f := fun i j => i % j) m2)) d_int rd_eqI) fun _ => d_op (d_call (da_cons (d_var rfl) da_nil) ⟨hlf ns, len_tab _, rfl, rfl⟩) d_non rd_isN) (congrArg PyData.bool (fine_eq ns)))) ?_
  refine s_seq (s_set (d := .list G12) (d_op (d_var rfl) (d_lst (da_cons (EvD.to (d_call (da_cons d_int (da_cons (EvD.to (z := li (tab fun i => 2 * ns.getD i 0)) (d_lc (src1 hnl (d_var rfl)) (by decide) own1 (fun i hi => b_yes) (fun i hi _ => d_op d_int (d_var rfl) (rd_intC (C := CMul) (f := fun i j => i * j) (.inl ⟨by decide, by decide⟩)))) (congrArg PyData.list (given_tab _))) da_nil))
      ⟨2, _, _, len_tab _, .inr rfl, by decide, fun _ => (twice_lng hD).2, rfl, rfl⟩) (heard_twice hD)) (da_cons (d_call (da_cons d_int (da_cons (d_var rfl) da_nil)) ⟨2, ns, _, hnl, .inl rfl, by decide, fun _ => hD.lng.2, rfl, rfl⟩) da_nil)) (two _ _)) (rd_catL (by show (10 + 2 : Nat) ≤ 100000; decide)))) ?_
  refine s_ret (d_call (da_cons (d_var rfl) (da_cons (d := .list G12) (d_op (d_var rfl) (d_lst (ds := [ti ns, heardD 2 ns]) (da_cons (d_var rfl) (da_cons (d_if (b_B (d_var rfl)) (fun hc => ?_) fun hc => ?_) da_nil)) (two _ _)) (rd_catL (by show (10 + 2 : Nat) ≤ 100000; decide))) da_nil)) ⟨_, ?_, rfl, rfl⟩)
  · have hn : noWayB ns = false := by simpa using hc
    rw [show heardD 2 ns = ti (hlf ns) from if_neg (by rw [hn]; decide)]
    exact d_var rfl
  · have hn : noWayB ns = true := by simpa using hc
    rw [show heardD 2 ns = heardL "no way" from if_pos hn]
    exact d_lst (da_cons d_str (da_cons d_bl da_nil)) (two _ _)
  · have lt : ∀ xs : List Int, xs.length = 24 → Pl 2 (ti xs) := fun xs h => Pl.ti (by omega)
    refine .inr ⟨_, .inl rfl, by show (12 : Nat) ≤ 1000; decide, fun y hy => ?_⟩
    simp only [G12, G10, G6, G4, List.mem_append, List.mem_cons, List.not_mem_nil, or_false] at hy
    rcases hy with (((rfl | rfl | rfl | rfl) | rfl | rfl) | rfl | rfl | rfl | rfl) | rfl | rfl
    · exact Pl.int 2 _
    · exact Pl.int 2 _
    · exact lt _ (len_tab _)
    · exact Pl.int 2 _
    · exact lt _ (len_tab _)
    · exact Pl.bool 2 _
    · exact lt _ (len_tab _)
    · exact Pl.bool 2 _
    · exact lt _ (len_tab _)
    · exact lt _ (len_tab _)
    · exact lt _ hnl
    · exact pl_heard2 ns
end
end Lo
/-! E15: law. -/
namespace Lo
open PySem PySem.Spec L2 Evl PyProof.Rows

theorem ret_i {te : TE} {D : Ends} {σ : L2.St} {H : Hp} (h : te σ H D.rt) : tRet te D σ H := h
theorem andV_i {ta tb : TE} {σ : L2.St} {H : Hp} {Q : VK} (h : ta σ H fun x H1 => ∃ c, x = .bl c ∧ if c = true then tb σ H1 Q else Q (.bl false) H1) : tAndV ta tb σ H Q := h
section
variable {P : Program} {w : World} {K : PySem.W.Frag} {mg : Str → Option Value} {base : Heap}
/-- a def's promise, the def at hand -/
theorem fnok_raw {x : Str} {st : Stmt} {N ps : List Str} {k : Nat} {sp : Sp} {f : Addr} {fd : FuncData} (F1 : Fun K x x st f fd) (S : FnScope N ps (defScope st)) (len : ∀ vs H Q E, sp vs H Q E → vs.length = ps.length)
    (hbody : ∀ (cdv : Value) (A : Around) (outer : List Env) (s : Shared) (H : Hp) (vs : List V) (Q : VK) (E : XK), Room k (A.deeper (envOfC x (defScope st) s.heap.objs.size f cdv)) → sp vs H Q E →
      ∃ t, PSs (cxOf CX0 P w K mg base N x (defScope st) f cdv A outer s H E).nox (defBody st) t ∧ t { nx := fun _ H' => Q .non H', rt := Q } (L2.start N vs) H) : FnOk P w K mg base CX0 (k + 1) f fd ps sp :=
  F1.ok S len (fun cdv A outer s H vs Q E hr h => hbody cdv A outer s H vs Q E hr h)
theorem ok_law {f : Addr} {fd : FuncData} (F : Fun K "law" "law" sLaw f fd) (G1 : Dfn P w K mg base CX0 13 "_law_by_hand_right" [] (spD K fun ds d => ds = [] ∧ d = .bool true)) (G2 : Dfn P w K mg base CX0 13 "_law_right" ["_law_tin"] (spR K)) (G3 : Dfn P w K mg base CX0 1 "_law_box" ["_law_script", "_law_k"] (spD K RBox))
    (G4 : Dfn P w K mg base CX0 1 "_law_cells" ["_law_script", "_law_most_so"] (spCells K)) : FnOk P w K mg base CX0 14 f fd ["_law_script"] (spLaw K) := by
  refine fnok_raw F scLaw (fun vs H Q E ⟨_, _, h, _⟩ => by rw [h]; rfl) ?_
  intro cdv A outer s H vs Q E hr h
  obtain ⟨a, ns, rfl, hS, hl, q⟩ := h
  refine ⟨_, pss_one (ps_ret (pe_and (pc0 G1 hr) (pe_one (pc G2 hr (pa_cons (pc G3 (hr.mono (by decide)) (pa_cons (pc G4 (hr.mono (by decide)) (pa_cons (pv 0) (pa_cons pe_int pa_nil))) (pa_cons pe_int pa_nil))) pa_nil))))), ?_⟩
  let A0 : Hd := ⟨fun _ => none, H, fun _ _ e => nomatch e⟩
  have kn : KnS K (L2.start nLaw [.ref a]) A0.k [none] := KnS.startT (N := nLaw) .nil
  have hand : EvD K (tCall (spD K fun ds d => ds = [] ∧ d = PyData.bool true) [] E0 tNil) [none] (.bool true) := d_call da_nil ⟨rfl, rfl⟩
  refine ret_i (andV_i (hand (L2.start nLaw [.ref a]) A0 kn _ fun v B e hv => ?_))
  cases hv
  refine ⟨true, rfl, iteT ?_⟩
  have hS' : SqL K B.h a (ns.map V.int) := ex_l e.h hS
  refine ⟨_, rfl, B, a, ns, rfl, rfl, hS', hl, fun v c C e2 hv => ?_⟩
  refine ⟨C, [li [c], .int 0], li (boxL c), rfl, .cons hv (.cons (.int 0) .nil), ⟨c, rfl, rfl⟩, fun v2 Z e3 hv2 => ?_⟩
  cases hv2 with
  | @lst p2 xs _ hp hx =>
    have hx2 : xs = (boxL c).map V.int := hx.ints_inv
    subst hx2
    refine ⟨Z.forget p2, p2, rfl, rfl, ⟨forget_at, boxX c, c % 2305843009213693951 + 39373 * 0 + 11397, 0, by decide, by decide, Z.ex _ _ hp⟩, fun C => q C.h⟩
end
end Lo
/-! E16: all defs together, what the top must say (written by genE16.py). -/
namespace Lo
open PySem PySem.Spec L2 Evl PyProof.Rows

/-- a def of the text in the written part -/
structure FunK (K : PySem.W.Frag) (x : Str) (st : Stmt) : Prop where
  ex : ∃ (f : Addr) (fd : FuncData), PySem.W.nsIn K mainGlobals x = some (some (.ref f)) ∧ Fun K x x st f fd
section
variable {K : PySem.W.Frag} {h : Heap} {mg : Str → Option Value} {x : Str} {st : Stmt}
theorem funK_mk {f : Addr} {oc : Value} {od an : Option Addr} {osl : Array (Option Value)} {kV doc pm cdv ct : Value} (a : PySem.W.nsIn K mainGlobals x = some (some (.ref f))) (l : K.lookup f = some ⟨oc, od, .func (PySem.W.fnOf x x (defArgs st) (defBody st) (defScope st) .none kV doc pm an cdv ct), osl⟩)
    (c : PySem.W.codeIn K cdv x = true) (k : PySem.W.keepIn K (.ref f) = true) : FunK K x st := ⟨f, _, a, fun_mk l c k⟩
theorem FunK.m (F : FunK K x st) (X : K.In h) (G : h.Ns mainGlobals mg) : FunM K mg x st := let ⟨f, fd, a, F1⟩ := F.ex; ⟨f, fd, F1, PySem.W.mg_of X G a⟩
/-- an exception class in the written part -/
structure ExnK (K : PySem.W.Frag) (x : Str) (C : Addr) : Prop where
  gl : PySem.W.nsIn K mainGlobals x = some (some (.ref C))
  q : PySem.W.excIn K C He.veBase "ValueError.__new__" = true
  kp : PySem.W.keepIn K (.ref C) = true
  sub : PySem.W.subIn K (.ref C) (.type "BaseException") = some true
  ty : PySem.W.typeIn K (.ref C) = some (.type "type")
  hg : PySem.W.findIn K (.ref C) "__getattribute__" = some (some (.builtin "BaseException.__getattribute__"))
  hk : PySem.W.findIn K (.ref C) "__getattr__" = some none
  hd : PySem.W.hasDictIn K C = true
  ha : PySem.W.findIn K (.ref C) "__class__" = some (some (.builtin "object.__class__"))
  hn : PySem.W.specialIn K (.builtin "object.__class__") "__get__" = some (some (.builtin "getset_descriptor.__get__"))
  ht : PySem.W.takesIn K (.builtin "object.__class__") = some true
  hm : PySem.W.mroIn K C (.type "object") = some true
  ve : PySem.W.kitOne K (.ref C) (.type "ValueError") = some true
theorem ExnK.m {C : Addr} (e : ExnK K x C) (X : K.In h) (G : h.Ns mainGlobals mg) : Exn K mg x C := ⟨PySem.W.mg_of X G e.gl, e.q, e.kp, e.sub, e.ty, ⟨e.hg, e.hk, e.sub, e.hd, e.ha, e.hn, e.ht, e.hm⟩, e.ve⟩
/-- the constants -/
structure CstK (K : PySem.W.Frag) : Prop where
  signs : ∃ t, PySem.W.nsIn K mainGlobals "SIGNS" = some (some (.int 4 t))
  places : ∃ t, PySem.W.nsIn K mainGlobals "PLACES" = some (some (.int 6 t))
  lamps : ∃ t, PySem.W.nsIn K mainGlobals "LAMPS" = some (some (.int 24 t))
  short : ∃ t, PySem.W.nsIn K mainGlobals "SHORT" = some (some (.int 4 t))
  prods : ∃ p, PySem.W.nsIn K mainGlobals "PRODUCTS" = some (some (.ref p)) ∧ ∀ H, Da K H (.ref p) prodD
theorem CstK.m (c : CstK K) (X : K.In h) (G : h.Ns mainGlobals mg) : Cst K mg := by
  obtain ⟨⟨a, ha⟩, ⟨b, hb⟩, ⟨c, hc⟩, ⟨d, hd⟩, ⟨p, hp, hP⟩⟩ := c
  exact ⟨⟨a, PySem.W.mg_of X G ha⟩, ⟨b, PySem.W.mg_of X G hb⟩, ⟨c, PySem.W.mg_of X G hc⟩, ⟨d, PySem.W.mg_of X G hd⟩, ⟨p, PySem.W.mg_of X G hp, hP⟩⟩
theorem da_row {a : Addr} {cl : Value} {dd : Option Addr} {i j k l : Int} {ti tj tk tl : Tok} {n : Nat} {sl : Array (Option Value)} {H : Hp} (e : K.lookup a = some ⟨cl, dd, .seq #[.int i ti, .int j tj, .int k tk, .int l tl] n, sl⟩) (hc : cl = .type "tuple") : Da K H (.ref a) (Lo.ti [i, j, k, l]) :=
  .tup (xs := [.int i, .int j, .int k, .int l]) (.inr ⟨_, _, _, e, hc, rfl, by show 4 ≤ sizeLine; decide, .cons ⟨_, rfl⟩ (.cons ⟨_, rfl⟩ (.cons ⟨_, rfl⟩ (.cons ⟨_, rfl⟩ .nil)))⟩) (.cons (.int i) (.cons (.int j) (.cons (.int k) (.cons (.int l) .nil))))
theorem cstK_mk {t0 t1 t2 t3 : Tok} {p a0 a1 a2 a3 : Addr} {cl : Value} {dd : Option Addr} {n : Nat} {sl : Array (Option Value)} (s0 : PySem.W.nsIn K mainGlobals "SIGNS" = some (some (.int 4 t0))) (s1 : PySem.W.nsIn K mainGlobals "PLACES" = some (some (.int 6 t1))) (s2 : PySem.W.nsIn K mainGlobals "LAMPS" = some (some (.int 24 t2)))
    (s3 : PySem.W.nsIn K mainGlobals "SHORT" = some (some (.int 4 t3))) (g : PySem.W.nsIn K mainGlobals "PRODUCTS" = some (some (.ref p))) (e : K.lookup p = some ⟨cl, dd, .seq #[.ref a0, .ref a1, .ref a2, .ref a3] n, sl⟩) (hc : cl = .type "tuple")
    (r0 : ∀ H, Da K H (.ref a0) (ti [0, 0, 0, 0])) (r1 : ∀ H, Da K H (.ref a1) (ti [0, 1, 2, 3])) (r2 : ∀ H, Da K H (.ref a2) (ti [0, 2, 3, 1])) (r3 : ∀ H, Da K H (.ref a3) (ti [0, 3, 1, 2])) : CstK K :=
  ⟨⟨_, s0⟩, ⟨_, s1⟩, ⟨_, s2⟩, ⟨_, s3⟩, p, g, fun H => .tup (xs := [.ref a0, .ref a1, .ref a2, .ref a3]) (.inr ⟨_, _, _, e, hc, rfl, by show 4 ≤ sizeLine; decide, .cons rfl (.cons rfl (.cons rfl (.cons rfl .nil)))⟩) (.cons (r0 H) (.cons (r1 H) (.cons (r2 H) (.cons (r3 H) .nil))))⟩
end
/-- what the top says -/
structure TopK (K : PySem.W.Frag) (U N W : Addr) : Prop where
  fTupled : FunK K "tupled" sTupled
  fIsNumber : FunK K "is_number" sIsNumber
  fIsCount : FunK K "is_count" sIsCount
  fIsBelow : FunK K "is_below" sIsBelow
  fIsTupleOf : FunK K "is_tuple_of" sIsTupleOf
  fAscends : FunK K "ascends" sAscends
  fIsNumberSet : FunK K "is_number_set" sIsNumberSet
  fIsRow : FunK K "is_row" sIsRow
  fSignSum : FunK K "sign_sum" sSignSum
  fSignProduct : FunK K "sign_product" sSignProduct
  fBegunWord : FunK K "begun_word" sBegunWord
  fIsWord : FunK K "is_word" sIsWord
  fColumnLamps : FunK K "column_lamps" sColumnLamps
  fColumnSigns : FunK K "column_signs" sColumnSigns
  fParities : FunK K "parities" sParities
  fIsRight : FunK K "is_right" sIsRight
  fIsPlainRow : FunK K "is_plain_row" sIsPlainRow
  fSurePlainRow : FunK K "sure_plain_row" sSurePlainRow
  fMixedPlace : FunK K "mixed_place" sMixedPlace
  fOddHalves : FunK K "odd_halves" sOddHalves
  fRowBreak : FunK K "row_break" sRowBreak
  fIsLong : FunK K "is_long" sIsLong
  fSureLong : FunK K "sure_long" sSureLong
  fOddLot : FunK K "odd_lot" sOddLot
  fRuleBroken : FunK K "rule_broken" sRuleBroken
  fIsBreak : FunK K "is_break" sIsBreak
  fIsRuleBroken : FunK K "is_rule_broken" sIsRuleBroken
  fSquares : FunK K "squares" sSquares
  fTimes : FunK K "times" sTimes
  fLongLength : FunK K "long_length" sLongLength
  fLongProduct : FunK K "long_product" sLongProduct
  fLongSum : FunK K "long_sum" sLongSum
  fContraryRow : FunK K "contrary_row" sContraryRow
  fLongContrary : FunK K "long_contrary" sLongContrary
  fWithSigns : FunK K "with_signs" sWithSigns
  fSignsTurned : FunK K "signs_turned" sSignsTurned
  fHalvedRow : FunK K "halved_row" sHalvedRow
  fHalfLong : FunK K "half_long" sHalfLong
  fShapeIn : FunK K "shape_in" sShapeIn
  fShapeOf : FunK K "shape_of" sShapeOf
  fLawBox : FunK K "_law_box" sLawBox
  fLawTake : FunK K "_law_take" sLawTake
  fLawCells : FunK K "_law_cells" sLawCells
  fLawOf : FunK K "_law_of" sLawOf
  fLawSame : FunK K "_law_same" sLawSame
  fLawPut : FunK K "_law_put" sLawPut
  fLawSignsProduct : FunK K "_law_signs_product" sLawSignsProduct
  fLawWordBy : FunK K "_law_word_by" sLawWordBy
  fLawSign : FunK K "_law_sign" sLawSign
  fLawIsRight : FunK K "_law_is_right" sLawIsRight
  fLawBits : FunK K "_law_bits" sLawBits
  fLawLot : FunK K "_law_lot" sLawLot
  fLawLotSum : FunK K "_law_lot_sum" sLawLotSum
  fLawBase : FunK K "_law_base" sLawBase
  fLawTally : FunK K "_law_tally" sLawTally
  fLawRights : FunK K "_law_rights" sLawRights
  fLawBoard : FunK K "_law_board" sLawBoard
  fLawLength : FunK K "_law_length" sLawLength
  fLawLongProduct : FunK K "_law_long_product" sLawLongProduct
  fLawSomeLong : FunK K "_law_some_long" sLawSomeLong
  fLawBreak : FunK K "_law_break" sLawBreak
  fLawHeard : FunK K "_law_heard" sLawHeard
  fLawOdd : FunK K "_law_odd" sLawOdd
  fLawRowRight : FunK K "_law_row_right" sLawRowRight
  fLawByHandRight : FunK K "_law_by_hand_right" sLawByHandRight
  fLawRight : FunK K "_law_right" sLawRight
  bIsi : PySem.W.nsIn K mainGlobals "isinstance" = some none
  bInt : PySem.W.nsIn K mainGlobals "int" = some none
  bBool : PySem.W.nsIn K mainGlobals "bool" = some none
  bTuple : PySem.W.nsIn K mainGlobals "tuple" = some none
  bList : PySem.W.nsIn K mainGlobals "list" = some none
  bStr : PySem.W.nsIn K mainGlobals "str" = some none
  bLen : PySem.W.nsIn K mainGlobals "len" = some none
  bAll : PySem.W.nsIn K mainGlobals "all" = some none
  bZip : PySem.W.nsIn K mainGlobals "zip" = some none
  bRange : PySem.W.nsIn K mainGlobals "range" = some none
  bEnum : PySem.W.nsIn K mainGlobals "enumerate" = some none
  bSet : PySem.W.nsIn K mainGlobals "set" = some none
  bSum : PySem.W.nsIn K mainGlobals "sum" = some none
  bMax : PySem.W.nsIn K mainGlobals "max" = some none
  bAbs : PySem.W.nsIn K mainGlobals "abs" = some none
  bVe : PySem.W.nsIn K mainGlobals "ValueError" = some none
  eU : ExnK K "Unfit" U
  eN : ExnK K "NoPaper" N
  eW : ExnK K "NoWay" W
  nn : PySem.W.exmOne K (.ref N) (.ref N) = some true
  wn : PySem.W.exmOne K (.ref W) (.ref N) = some false
  ww : PySem.W.exmOne K (.ref W) (.ref W) = some true
  un : PySem.W.exmOne K (.ref U) (.ref N) = some false
  uw : PySem.W.exmOne K (.ref U) (.ref W) = some false
  uu : PySem.W.exmOne K (.ref U) (.ref U) = some true
  cst : CstK K
section
variable {P : Program} {w : World} {K : PySem.W.Frag} {mg : Str → Option Value} {base h : Heap} {U N W : Addr}
theorem law_ok {f : Addr} {fd : FuncData} (S : TopK K U N W) (X : K.In h) (G : h.Ns mainGlobals mg) (FL : Fun K "law" "law" sLaw f fd) : FnOk P w K mg base CX0 14 f fd ["_law_script"] (spLaw K) := by
  have T : Blt mg := ⟨PySem.W.mg_none_of X G S.bIsi, PySem.W.mg_none_of X G S.bInt, PySem.W.mg_none_of X G S.bBool, PySem.W.mg_none_of X G S.bTuple, PySem.W.mg_none_of X G S.bList, PySem.W.mg_none_of X G S.bStr, PySem.W.mg_none_of X G S.bLen, PySem.W.mg_none_of X G S.bAll, PySem.W.mg_none_of X G S.bZip, PySem.W.mg_none_of X G S.bRange, PySem.W.mg_none_of X G S.bEnum, PySem.W.mg_none_of X G S.bSet, PySem.W.mg_none_of X G S.bSum, PySem.W.mg_none_of X G S.bMax, PySem.W.mg_none_of X G S.bAbs, PySem.W.mg_none_of X G S.bVe⟩
  have E : Exns K mg U N W := ⟨S.eU.m X G, S.eN.m X G, S.eW.m X G, S.nn, S.wn, S.ww, S.un, S.uw, S.uu⟩
  have C : Cst K mg := S.cst.m X G
  have dIsNumber := ok_is_number (P := P) (w := w) (base := base) (S.fIsNumber.m X G) T
  have dIsCount := ok_is_count (P := P) (w := w) (base := base) (S.fIsCount.m X G) dIsNumber
  have dIsBelow := ok_is_below (P := P) (w := w) (base := base) (S.fIsBelow.m X G) dIsCount
  have dIsTupleOf := ok_is_tuple_of (P := P) (w := w) (base := base) (S.fIsTupleOf.m X G) T
  have dAscends := ok_ascends (P := P) (w := w) (base := base) (S.fAscends.m X G) T
  have dIsNumberSet := ok_is_number_set (P := P) (w := w) (base := base) (S.fIsNumberSet.m X G) T dIsBelow dAscends
  have dIsRow := ok_is_row (P := P) (w := w) (base := base) (S.fIsRow.m X G) T C dIsTupleOf dIsBelow
  have dSignSum := ok_sign_sum (P := P) (w := w) (base := base) (S.fSignSum.m X G)
  have dSignProduct := ok_sign_product (P := P) (w := w) (base := base) (S.fSignProduct.m X G) C
  have dBegunWord := ok_begun_word (P := P) (w := w) (base := base) (S.fBegunWord.m X G) dSignSum dSignProduct
  have dIsWord := ok_is_word (P := P) (w := w) (base := base) (S.fIsWord.m X G) dIsRow dBegunWord
  have dColumnLamps := ok_column_lamps (P := P) (w := w) (base := base) (S.fColumnLamps.m X G) T C
  have dColumnSigns := ok_column_signs (P := P) (w := w) (base := base) (S.fColumnSigns.m X G) T C
  have dParities := ok_parities (P := P) (w := w) (base := base) (S.fParities.m X G) T C dColumnLamps
  have dIsRight := ok_is_right (P := P) (w := w) (base := base) (S.fIsRight.m X G) T dParities dIsWord dColumnSigns
  have dIsPlainRow := ok_is_plain_row (P := P) (w := w) (base := base) (S.fIsPlainRow.m X G) T C dIsTupleOf dIsNumber
  have dTupled0 := ok_tupled0 (P := P) (w := w) (base := base) (S.fTupled.m X G) T
  have dTupled := ok_tupled (P := P) (w := w) (base := base) (S.fTupled.m X G) T dTupled0
  have dSurePlainRow := ok_sure_plain_row (P := P) (w := w) (base := base) (S.fSurePlainRow.m X G) dTupled dIsPlainRow
  have dMixedPlace := ok_mixed_place (P := P) (w := w) (base := base) (S.fMixedPlace.m X G) T
  have dOddHalves := ok_odd_halves (P := P) (w := w) (base := base) (S.fOddHalves.m X G) T
  have dRowBreak := ok_row_break (P := P) (w := w) (base := base) (S.fRowBreak.m X G) T dMixedPlace dOddHalves dIsRight
  have dIsLong := ok_is_long (P := P) (w := w) (base := base) (S.fIsLong.m X G) dIsPlainRow dRowBreak
  have dSureLong := ok_sure_long (P := P) (w := w) (base := base) (S.fSureLong.m X G) dTupled dIsLong
  have dHalvedRow := ok_halved_row (P := P) (w := w) (base := base) (S.fHalvedRow.m X G) T
  have dOddLot := ok_odd_lot (P := P) (w := w) (base := base) E.u (S.fOddLot.m X G) dSurePlainRow dMixedPlace dOddHalves
  have dRuleBroken := ok_rule_broken (P := P) (w := w) (base := base) E.n (S.fRuleBroken.m X G) dSurePlainRow dRowBreak
  have dHalfLong := ok_half_long (P := P) (w := w) (base := base) E.w (S.fHalfLong.m X G) dSureLong dRowBreak dHalvedRow
  have dIsBreak := ok_is_break (P := P) (w := w) (base := base) (S.fIsBreak.m X G) T C dIsTupleOf dIsNumberSet dIsNumber
  have dIsRuleBroken := ok_is_rule_broken (P := P) (w := w) (base := base) (S.fIsRuleBroken.m X G) dSurePlainRow dRowBreak dIsBreak
  have dSquares := ok_squares (P := P) (w := w) (base := base) (S.fSquares.m X G) T
  have dTimes := ok_times (P := P) (w := w) (base := base) (S.fTimes.m X G) T
  have dLongLength := ok_long_length (P := P) (w := w) (base := base) (S.fLongLength.m X G) dSureLong dSquares
  have dLongProduct := ok_long_product (P := P) (w := w) (base := base) (S.fLongProduct.m X G) dSureLong dTimes
  have dLongSum := ok_long_sum (P := P) (w := w) (base := base) (S.fLongSum.m X G) T dSureLong
  have dContraryRow := ok_contrary_row (P := P) (w := w) (base := base) (S.fContraryRow.m X G) T
  have dLongContrary := ok_long_contrary (P := P) (w := w) (base := base) (S.fLongContrary.m X G) dSureLong dContraryRow
  have dWithSigns := ok_with_signs (P := P) (w := w) (base := base) (S.fWithSigns.m X G) T
  have dSignsTurned := ok_signs_turned (P := P) (w := w) (base := base) (S.fSignsTurned.m X G) C dSureLong dTupled dIsNumberSet dIsRight dWithSigns
  have dShapeIn := ok_shape_in (P := P) (w := w) (base := base) (S.fShapeIn.m X G) T C dSquares
  have dShapeOf := ok_shape_of (P := P) (w := w) (base := base) (S.fShapeOf.m X G) dSureLong dShapeIn
  have dLawSignsProduct := ok_law_signs_product (P := P) (w := w) (base := base) (S.fLawSignsProduct.m X G)
  have dLawWordBy := ok_law_word_by (P := P) (w := w) (base := base) (S.fLawWordBy.m X G) dLawSignsProduct
  have dLawSign := ok_law_sign (P := P) (w := w) (base := base) (S.fLawSign.m X G) T
  have dLawIsRight := ok_law_is_right (P := P) (w := w) (base := base) (S.fLawIsRight.m X G) T dLawSign dLawWordBy
  have dLawBits := ok_law_bits (P := P) (w := w) (base := base) (S.fLawBits.m X G) T
  have dLawLot := ok_law_lot (P := P) (w := w) (base := base) (S.fLawLot.m X G) T
  have dLawLotSum := ok_law_lot_sum (P := P) (w := w) (base := base) (S.fLawLotSum.m X G) T
  have dLawPut := ok_law_put (P := P) (w := w) (base := base) (S.fLawPut.m X G)
  have dLawLength := ok_law_length (P := P) (w := w) (base := base) (S.fLawLength.m X G) T
  have dLawLongProduct := ok_law_long_product (P := P) (w := w) (base := base) (S.fLawLongProduct.m X G) T
  have dLawBreak := ok_law_break (P := P) (w := w) (base := base) (S.fLawBreak.m X G) T dLawIsRight
  have dLawOdd := ok_law_odd (P := P) (w := w) (base := base) (S.fLawOdd.m X G) T
  have dLawBase := ok_law_base (P := P) (w := w) (base := base) (S.fLawBase.m X G) T dLawWordBy
  have dLawTally := ok_law_tally (P := P) (w := w) (base := base) (S.fLawTally.m X G) T
  have dLawRights := ok_law_rights (P := P) (w := w) (base := base) (S.fLawRights.m X G) T dLawBase dLawBits
  have dLawBoard := ok_law_board (P := P) (w := w) (base := base) (S.fLawBoard.m X G) T dLawRights dLawTally
  have dLawTake := ok_law_take (P := P) (w := w) (base := base) (S.fLawTake.m X G) T
  have dLawOf := ok_law_of (P := P) (w := w) (base := base) (S.fLawOf.m X G) T dLawTake
  have dLawSomeLong := ok_law_some_long (P := P) (w := w) (base := base) (S.fLawSomeLong.m X G) T dLawTake dLawOf dLawLot
  have dLawBox := ok_law_box (P := P) (w := w) (base := base) (S.fLawBox.m X G) T
  have dLawCells := ok_law_cells (P := P) (w := w) (base := base) (S.fLawCells.m X G) T
  have dLawSame := ok_law_same (P := P) (w := w) (base := base) (S.fLawSame.m X G) T 3
  have dLawHeard := ok_law_heard (P := P) (w := w) (base := base) E (S.fLawHeard.m X G) T dRuleBroken dOddLot dHalfLong
  have dLawRowRight := ok_law_row_right (P := P) (w := w) (base := base) (S.fLawRowRight.m X G) T dLawBreak dLawOdd dIsLong dLawHeard dLawSame dIsRuleBroken
  have dLawByHandRight := ok_law_by_hand_right (P := P) (w := w) (base := base) (S.fLawByHandRight.m X G) T dLawBreak dLawRowRight
  have D : Defs P w K mg base := ⟨dLawBoard, dLawSomeLong, dLawTake, dLawOf, dLawLot, dLawPut, dLawRowRight, dLongLength, dLongProduct, dLongSum, dLongContrary, dShapeOf, dSignsTurned, dIsLong, dLawLength, dLawLongProduct, dLawLotSum, dLawBreak, dLawHeard, dLawSame⟩
  exact ok_law FL dLawByHandRight (ok_law_right (S.fLawRight.m X G) T D) dLawBox dLawCells
/-- all of it, from the top -/
theorem all_mk {l : PySem.W.OpenLaw} {fa f4 : Addr} {oc4 kV4 dc4 pm4 cd4 ct4 : Value} {od4 an4 : Option Addr} {sl4 : Array (Option Value)} (X : K.In h) (G : h.Ns mainGlobals mg) (hfa : mg "law" = some (.ref fa)) (a4 : PySem.W.nsIn K mainGlobals "law" = some (some (.ref f4)))
    (l4 : K.lookup f4 = some ⟨oc4, od4, .func (PySem.W.fnOf "law" "law" (defArgs sLaw) (defBody sLaw) (defScope sLaw) .none kV4 dc4 pm4 an4 cd4 ct4), sl4⟩) (c4 : PySem.W.codeIn K cd4 "law" = true) (k4 : PySem.W.keepIn K (.ref f4) = true) (S : TopK K U N W) :
    ∃ fd : FuncData, (∀ (s : Shared) (v : Value), BindsTo s fd ⟨[v], []⟩ [("_law_script", v)]) ∧ ∀ base : Heap, K.In base → base.Ns mainGlobals mg → FnOk l.prog w K mg base CX0 14 fa fd ["_law_script"] (spLaw K) := by
  have e := hfa.symm.trans (PySem.W.mg_of X G a4)
  cases e
  exact ⟨PySem.W.fnOf "law" "law" (defArgs sLaw) (defBody sLaw) (defScope sLaw) .none kV4 dc4 pm4 an4 cd4 ct4, fun s v => .of_eq rfl, fun base _ _ => law_ok S X G (fun_mk (st := sLaw) l4 c4 k4)⟩
theorem walk {l : PySem.W.OpenLaw} {q : Program} {loose : List Str} {XP : (Str → Option Value) → Heap → Prop} {YP : World → Heap → Prop} {d : DefRec} {K : Params → PySem.W.Frag} (hn : l.most = some 63) (hdf : d.params.defaults = [])
    (hY : ∀ (w : World) (h : Heap), YP w h → (K w.params).In h)
    (F : ∀ (w : World) (mg : Str → Option Value) (fa : Addr) (h : Heap), (K w.params).In h → h.Ns mainGlobals mg → mg d.name = some (.ref fa) →
      ∃ fd : FuncData, (∀ (s : Shared) (u : Value), BindsTo s fd ⟨[u], []⟩ [("_law_script", u)]) ∧ ∀ base : Heap, (K w.params).In base → base.Ns mainGlobals mg → FnOk l.prog w (K w.params) mg base CX0 14 fa fd ["_law_script"] (spLaw (K w.params))) :
    PySem.W.WalkO q loose XP YP l.row.toRowW d [] (fun f vs => PySem.call f vs) :=
  L2.walk_of (n := 63) (k := 14) (x := "_law_script") (CX := fun _ => CX0) (sp := fun w => spLaw (K w.params)) hn (by decide) hdf ⟨rfl, by decide, by decide⟩ hY F (fun _ _ a ns hl _ hS => ⟨a, ns, rfl, hS, hl, fun _ => rfl⟩) fun _ _ _ _ _ z => z
end
end Lo
set_option maxHeartbeats 0
open PySem PySem.W PyProof.Rows
open_top hd for PySem.Challenge.rw_eightlots_k41_whole_what_long_rows_break
open PySem PySem.W PyProof.Rows in
set_option maxRecDepth 100000 in
set_option maxHeartbeats 0 in
theorem PySem.Challenge.cw_eightlots_k41_whole_what_long_rows_break_holds : PySem.Challenge.rw_eightlots_k41_whole_what_long_rows_break.Holds := by
  refine hd ?_
  refine Lo.walk (l := PySem.Challenge.rw_eightlots_k41_whole_what_long_rows_break) rfl rfl (fun w h Y => PySem.W.kIn_of Y) ?F
  case F =>
    intro w mg fa h KX G hmg
    refine' Lo.all_mk KX G hmg ?a4 ?l4 ?c4 ?k4 ?S
    (case a4 => k_is)
    (case l4 => k_is)
    (case c4 => k_is)
    (case k4 => k_is)
    case S =>
      refine' { fTupled := Lo.funK_mk ?aTupled ?lTupled ?cTupled ?kTupled, fIsNumber := Lo.funK_mk ?aIsNumber ?lIsNumber ?cIsNumber ?kIsNumber, fIsCount := Lo.funK_mk ?aIsCount ?lIsCount ?cIsCount ?kIsCount, fIsBelow := Lo.funK_mk ?aIsBelow ?lIsBelow ?cIsBelow ?kIsBelow, fIsTupleOf := Lo.funK_mk ?aIsTupleOf ?lIsTupleOf ?cIsTupleOf ?kIsTupleOf, fAscends := Lo.funK_mk ?aAscends ?lAscends ?cAscends ?kAscends, fIsNumberSet := Lo.funK_mk ?aIsNumberSet ?lIsNumberSet ?cIsNumberSet ?kIsNumberSet, fIsRow := Lo.funK_mk ?aIsRow ?lIsRow ?cIsRow ?kIsRow, fSignSum := Lo.funK_mk ?aSignSum ?lSignSum ?cSignSum ?kSignSum, fSignProduct := Lo.funK_mk ?aSignProduct ?lSignProduct ?cSignProduct ?kSignProduct, fBegunWord := Lo.funK_mk ?aBegunWord ?lBegunWord ?cBegunWord ?kBegunWord, fIsWord := Lo.funK_mk ?aIsWord ?lIsWord ?cIsWord ?kIsWord, fColumnLamps := Lo.funK_mk ?aColumnLamps ?lColumnLamps ?cColumnLamps ?kColumnLamps, fColumnSigns := Lo.funK_mk ?aColumnSigns ?lColumnSigns ?cColumnSigns ?kColumnSigns, fParities := Lo.funK_mk ?aParities ?lParities ?cParities ?kParities, fIsRight := Lo.funK_mk ?aIsRight ?lIsRight ?cIsRight ?kIsRight, fIsPlainRow := Lo.funK_mk ?aIsPlainRow ?lIsPlainRow ?cIsPlainRow ?kIsPlainRow, fSurePlainRow := Lo.funK_mk ?aSurePlainRow ?lSurePlainRow ?cSurePlainRow ?kSurePlainRow, fMixedPlace := Lo.funK_mk ?aMixedPlace ?lMixedPlace ?cMixedPlace ?kMixedPlace, fOddHalves := Lo.funK_mk ?aOddHalves ?lOddHalves ?cOddHalves ?kOddHalves, fRowBreak := Lo.funK_mk ?aRowBreak ?lRowBreak ?cRowBreak ?kRowBreak, fIsLong := Lo.funK_mk ?aIsLong ?lIsLong ?cIsLong ?kIsLong, fSureLong := Lo.funK_mk ?aSureLong ?lSureLong ?cSureLong ?kSureLong, fOddLot := Lo.funK_mk ?aOddLot ?lOddLot ?cOddLot ?kOddLot, fRuleBroken := Lo.funK_mk ?aRuleBroken ?lRuleBroken ?cRuleBroken ?kRuleBroken, fIsBreak := Lo.funK_mk ?aIsBreak ?lIsBreak ?cIsBreak ?kIsBreak, fIsRuleBroken := Lo.funK_mk ?aIsRuleBroken ?lIsRuleBroken ?cIsRuleBroken ?kIsRuleBroken, fSquares := Lo.funK_mk ?aSquares ?lSquares ?cSquares ?kSquares, fTimes := Lo.funK_mk ?aTimes ?lTimes ?cTimes ?kTimes, fLongLength := Lo.funK_mk ?aLongLength ?lLongLength ?cLongLength ?kLongLength, fLongProduct := Lo.funK_mk ?aLongProduct ?lLongProduct ?cLongProduct ?kLongProduct, fLongSum := Lo.funK_mk ?aLongSum ?lLongSum ?cLongSum ?kLongSum, fContraryRow := Lo.funK_mk ?aContraryRow ?lContraryRow ?cContraryRow ?kContraryRow, fLongContrary := Lo.funK_mk ?aLongContrary ?lLongContrary ?cLongContrary ?kLongContrary, fWithSigns := Lo.funK_mk ?aWithSigns ?lWithSigns ?cWithSigns ?kWithSigns, fSignsTurned := Lo.funK_mk ?aSignsTurned ?lSignsTurned ?cSignsTurned ?kSignsTurned, fHalvedRow := Lo.funK_mk ?aHalvedRow ?lHalvedRow ?cHalvedRow ?kHalvedRow, fHalfLong := Lo.funK_mk ?aHalfLong ?lHalfLong ?cHalfLong ?kHalfLong, fShapeIn := Lo.funK_mk ?aShapeIn ?lShapeIn ?cShapeIn ?kShapeIn, fShapeOf := Lo.funK_mk ?aShapeOf ?lShapeOf ?cShapeOf ?kShapeOf, fLawBox := Lo.funK_mk ?aLawBox ?lLawBox ?cLawBox ?kLawBox, fLawTake := Lo.funK_mk ?aLawTake ?lLawTake ?cLawTake ?kLawTake, fLawCells := Lo.funK_mk ?aLawCells ?lLawCells ?cLawCells ?kLawCells, fLawOf := Lo.funK_mk ?aLawOf ?lLawOf ?cLawOf ?kLawOf, fLawSame := Lo.funK_mk ?aLawSame ?lLawSame ?cLawSame ?kLawSame, fLawPut := Lo.funK_mk ?aLawPut ?lLawPut ?cLawPut ?kLawPut, fLawSignsProduct := Lo.funK_mk ?aLawSignsProduct ?lLawSignsProduct ?cLawSignsProduct ?kLawSignsProduct, fLawWordBy := Lo.funK_mk ?aLawWordBy ?lLawWordBy ?cLawWordBy ?kLawWordBy, fLawSign := Lo.funK_mk ?aLawSign ?lLawSign ?cLawSign ?kLawSign, fLawIsRight := Lo.funK_mk ?aLawIsRight ?lLawIsRight ?cLawIsRight ?kLawIsRight, fLawBits := Lo.funK_mk ?aLawBits ?lLawBits ?cLawBits ?kLawBits, fLawLot := Lo.funK_mk ?aLawLot ?lLawLot ?cLawLot ?kLawLot, fLawLotSum := Lo.funK_mk ?aLawLotSum ?lLawLotSum ?cLawLotSum ?kLawLotSum, fLawBase := Lo.funK_mk ?aLawBase ?lLawBase ?cLawBase ?kLawBase, fLawTally := Lo.funK_mk ?aLawTally ?lLawTally ?cLawTally ?kLawTally, fLawRights := Lo.funK_mk ?aLawRights ?lLawRights ?cLawRights ?kLawRights, fLawBoard := Lo.funK_mk ?aLawBoard ?lLawBoard ?cLawBoard ?kLawBoard, fLawLength := Lo.funK_mk ?aLawLength ?lLawLength ?cLawLength ?kLawLength, fLawLongProduct := Lo.funK_mk ?aLawLongProduct ?lLawLongProduct ?cLawLongProduct ?kLawLongProduct, fLawSomeLong := Lo.funK_mk ?aLawSomeLong ?lLawSomeLong ?cLawSomeLong ?kLawSomeLong, fLawBreak := Lo.funK_mk ?aLawBreak ?lLawBreak ?cLawBreak ?kLawBreak, fLawHeard := Lo.funK_mk ?aLawHeard ?lLawHeard ?cLawHeard ?kLawHeard, fLawOdd := Lo.funK_mk ?aLawOdd ?lLawOdd ?cLawOdd ?kLawOdd, fLawRowRight := Lo.funK_mk ?aLawRowRight ?lLawRowRight ?cLawRowRight ?kLawRowRight, fLawByHandRight := Lo.funK_mk ?aLawByHandRight ?lLawByHandRight ?cLawByHandRight ?kLawByHandRight, fLawRight := Lo.funK_mk ?aLawRight ?lLawRight ?cLawRight ?kLawRight, bIsi := ?bIsi, bInt := ?bInt, bBool := ?bBool, bTuple := ?bTuple, bList := ?bList, bStr := ?bStr, bLen := ?bLen, bAll := ?bAll, bZip := ?bZip, bRange := ?bRange, bEnum := ?bEnum, bSet := ?bSet, bSum := ?bSum, bMax := ?bMax, bAbs := ?bAbs, bVe := ?bVe, eU := ⟨?gU, ?qU, ?pU, ?sU, ?tU, ?hgU, ?hkU, ?hdU, ?haU, ?hnU, ?htU, ?hmU, ?veU⟩, eN := ⟨?gN, ?qN, ?pN, ?sN, ?tN, ?hgN, ?hkN, ?hdN, ?haN, ?hnN, ?htN, ?hmN, ?veN⟩, eW := ⟨?gW, ?qW, ?pW, ?sW, ?tW, ?hgW, ?hkW, ?hdW, ?haW, ?hnW, ?htW, ?hmW, ?veW⟩, nn := ?nn, wn := ?wn, ww := ?ww, un := ?un, uw := ?uw, uu := ?uu, cst := Lo.cstK_mk ?c0 ?c1 ?c2 ?c3 ?cg ?ce ?cc ?r0 ?r1 ?r2 ?r3 }
      (case aTupled => k_is)
      (case lTupled => k_is)
      (case cTupled => k_is)
      (case kTupled => k_is)
      (case aIsNumber => k_is)
      (case lIsNumber => k_is)
      (case cIsNumber => k_is)
      (case kIsNumber => k_is)
      (case aIsCount => k_is)
      (case lIsCount => k_is)
      (case cIsCount => k_is)
      (case kIsCount => k_is)
      (case aIsBelow => k_is)
      (case lIsBelow => k_is)
      (case cIsBelow => k_is)
      (case kIsBelow => k_is)
      (case aIsTupleOf => k_is)
      (case lIsTupleOf => k_is)
      (case cIsTupleOf => k_is)
      (case kIsTupleOf => k_is)
      (case aAscends => k_is)
      (case lAscends => k_is)
      (case cAscends => k_is)
      (case kAscends => k_is)
      (case aIsNumberSet => k_is)
      (case lIsNumberSet => k_is)
      (case cIsNumberSet => k_is)
      (case kIsNumberSet => k_is)
      (case aIsRow => k_is)
      (case lIsRow => k_is)
      (case cIsRow => k_is)
      (case kIsRow => k_is)
      (case aSignSum => k_is)
      (case lSignSum => k_is)
      (case cSignSum => k_is)
      (case kSignSum => k_is)
      (case aSignProduct => k_is)
      (case lSignProduct => k_is)
      (case cSignProduct => k_is)
      (case kSignProduct => k_is)
      (case aBegunWord => k_is)
      (case lBegunWord => k_is)
      (case cBegunWord => k_is)
      (case kBegunWord => k_is)
      (case aIsWord => k_is)
      (case lIsWord => k_is)
      (case cIsWord => k_is)
      (case kIsWord => k_is)
      (case aColumnLamps => k_is)
      (case lColumnLamps => k_is)
      (case cColumnLamps => k_is)
      (case kColumnLamps => k_is)
      (case aColumnSigns => k_is)
      (case lColumnSigns => k_is)
      (case cColumnSigns => k_is)
      (case kColumnSigns => k_is)
      (case aParities => k_is)
      (case lParities => k_is)
      (case cParities => k_is)
      (case kParities => k_is)
      (case aIsRight => k_is)
      (case lIsRight => k_is)
      (case cIsRight => k_is)
      (case kIsRight => k_is)
      (case aIsPlainRow => k_is)
      (case lIsPlainRow => k_is)
      (case cIsPlainRow => k_is)
      (case kIsPlainRow => k_is)
      (case aSurePlainRow => k_is)
      (case lSurePlainRow => k_is)
      (case cSurePlainRow => k_is)
      (case kSurePlainRow => k_is)
      (case aMixedPlace => k_is)
      (case lMixedPlace => k_is)
      (case cMixedPlace => k_is)
      (case kMixedPlace => k_is)
      (case aOddHalves => k_is)
      (case lOddHalves => k_is)
      (case cOddHalves => k_is)
      (case kOddHalves => k_is)
      (case aRowBreak => k_is)
      (case lRowBreak => k_is)
      (case cRowBreak => k_is)
      (case kRowBreak => k_is)
      (case aIsLong => k_is)
      (case lIsLong => k_is)
      (case cIsLong => k_is)
      (case kIsLong => k_is)
      (case aSureLong => k_is)
      (case lSureLong => k_is)
      (case cSureLong => k_is)
      (case kSureLong => k_is)
      (case aOddLot => k_is)
      (case lOddLot => k_is)
      (case cOddLot => k_is)
      (case kOddLot => k_is)
      (case aRuleBroken => k_is)
      (case lRuleBroken => k_is)
      (case cRuleBroken => k_is)
      (case kRuleBroken => k_is)
      (case aIsBreak => k_is)
      (case lIsBreak => k_is)
      (case cIsBreak => k_is)
      (case kIsBreak => k_is)
      (case aIsRuleBroken => k_is)
      (case lIsRuleBroken => k_is)
      (case cIsRuleBroken => k_is)
      (case kIsRuleBroken => k_is)
      (case aSquares => k_is)
      (case lSquares => k_is)
      (case cSquares => k_is)
      (case kSquares => k_is)
      (case aTimes => k_is)
      (case lTimes => k_is)
      (case cTimes => k_is)
      (case kTimes => k_is)
      (case aLongLength => k_is)
      (case lLongLength => k_is)
      (case cLongLength => k_is)
      (case kLongLength => k_is)
      (case aLongProduct => k_is)
      (case lLongProduct => k_is)
      (case cLongProduct => k_is)
      (case kLongProduct => k_is)
      (case aLongSum => k_is)
      (case lLongSum => k_is)
      (case cLongSum => k_is)
      (case kLongSum => k_is)
      (case aContraryRow => k_is)
      (case lContraryRow => k_is)
      (case cContraryRow => k_is)
      (case kContraryRow => k_is)
      (case aLongContrary => k_is)
      (case lLongContrary => k_is)
      (case cLongContrary => k_is)
      (case kLongContrary => k_is)
      (case aWithSigns => k_is)
      (case lWithSigns => k_is)
      (case cWithSigns => k_is)
      (case kWithSigns => k_is)
      (case aSignsTurned => k_is)
      (case lSignsTurned => k_is)
      (case cSignsTurned => k_is)
      (case kSignsTurned => k_is)
      (case aHalvedRow => k_is)
      (case lHalvedRow => k_is)
      (case cHalvedRow => k_is)
      (case kHalvedRow => k_is)
      (case aHalfLong => k_is)
      (case lHalfLong => k_is)
      (case cHalfLong => k_is)
      (case kHalfLong => k_is)
      (case aShapeIn => k_is)
      (case lShapeIn => k_is)
      (case cShapeIn => k_is)
      (case kShapeIn => k_is)
      (case aShapeOf => k_is)
      (case lShapeOf => k_is)
      (case cShapeOf => k_is)
      (case kShapeOf => k_is)
      (case aLawBox => k_is)
      (case lLawBox => k_is)
      (case cLawBox => k_is)
      (case kLawBox => k_is)
      (case aLawTake => k_is)
      (case lLawTake => k_is)
      (case cLawTake => k_is)
      (case kLawTake => k_is)
      (case aLawCells => k_is)
      (case lLawCells => k_is)
      (case cLawCells => k_is)
      (case kLawCells => k_is)
      (case aLawOf => k_is)
      (case lLawOf => k_is)
      (case cLawOf => k_is)
      (case kLawOf => k_is)
      (case aLawSame => k_is)
      (case lLawSame => k_is)
      (case cLawSame => k_is)
      (case kLawSame => k_is)
      (case aLawPut => k_is)
      (case lLawPut => k_is)
      (case cLawPut => k_is)
      (case kLawPut => k_is)
      (case aLawSignsProduct => k_is)
      (case lLawSignsProduct => k_is)
      (case cLawSignsProduct => k_is)
      (case kLawSignsProduct => k_is)
      (case aLawWordBy => k_is)
      (case lLawWordBy => k_is)
      (case cLawWordBy => k_is)
      (case kLawWordBy => k_is)
      (case aLawSign => k_is)
      (case lLawSign => k_is)
      (case cLawSign => k_is)
      (case kLawSign => k_is)
      (case aLawIsRight => k_is)
      (case lLawIsRight => k_is)
      (case cLawIsRight => k_is)
      (case kLawIsRight => k_is)
      (case aLawBits => k_is)
      (case lLawBits => k_is)
      (case cLawBits => k_is)
      (case kLawBits => k_is)
      (case aLawLot => k_is)
      (case lLawLot => k_is)
      (case cLawLot => k_is)
      (case kLawLot => k_is)
      (case aLawLotSum => k_is)
      (case lLawLotSum => k_is)
      (case cLawLotSum => k_is)
      (case kLawLotSum => k_is)
      (case aLawBase => k_is)
      (case lLawBase => k_is)
      (case cLawBase => k_is)
      (case kLawBase => k_is)
      (case aLawTally => k_is)
      (case lLawTally => k_is)
      (case cLawTally => k_is)
      (case kLawTally => k_is)
      (case aLawRights => k_is)
      (case lLawRights => k_is)
      (case cLawRights => k_is)
      (case kLawRights => k_is)
      (case aLawBoard => k_is)
      (case lLawBoard => k_is)
      (case cLawBoard => k_is)
      (case kLawBoard => k_is)
      (case aLawLength => k_is)
      (case lLawLength => k_is)
      (case cLawLength => k_is)
      (case kLawLength => k_is)
      (case aLawLongProduct => k_is)
      (case lLawLongProduct => k_is)
      (case cLawLongProduct => k_is)
      (case kLawLongProduct => k_is)
      (case aLawSomeLong => k_is)
      (case lLawSomeLong => k_is)
      (case cLawSomeLong => k_is)
      (case kLawSomeLong => k_is)
      (case aLawBreak => k_is)
      (case lLawBreak => k_is)
      (case cLawBreak => k_is)
      (case kLawBreak => k_is)
      (case aLawHeard => k_is)
      (case lLawHeard => k_is)
      (case cLawHeard => k_is)
      (case kLawHeard => k_is)
      (case aLawOdd => k_is)
      (case lLawOdd => k_is)
      (case cLawOdd => k_is)
      (case kLawOdd => k_is)
      (case aLawRowRight => k_is)
      (case lLawRowRight => k_is)
      (case cLawRowRight => k_is)
      (case kLawRowRight => k_is)
      (case aLawByHandRight => k_is)
      (case lLawByHandRight => k_is)
      (case cLawByHandRight => k_is)
      (case kLawByHandRight => k_is)
      (case aLawRight => k_is)
      (case lLawRight => k_is)
      (case cLawRight => k_is)
      (case kLawRight => k_is)
      (case bIsi => k_is)
      (case bInt => k_is)
      (case bBool => k_is)
      (case bTuple => k_is)
      (case bList => k_is)
      (case bStr => k_is)
      (case bLen => k_is)
      (case bAll => k_is)
      (case bZip => k_is)
      (case bRange => k_is)
      (case bEnum => k_is)
      (case bSet => k_is)
      (case bSum => k_is)
      (case bMax => k_is)
      (case bAbs => k_is)
      (case bVe => k_is)
      (case gU => k_is)
      (case gN => k_is)
      (case gW => k_is)
      (case qU => kernel_rfl)
      (case pU => k_is)
      (case sU => k_is)
      (case tU => k_is)
      (case hgU => k_is)
      (case hkU => k_is)
      (case hdU => k_is)
      (case haU => k_is)
      (case hnU => k_is)
      (case htU => k_is)
      (case hmU => k_is)
      (case veU => kernel_rfl)
      (case qN => kernel_rfl)
      (case pN => k_is)
      (case sN => k_is)
      (case tN => k_is)
      (case hgN => k_is)
      (case hkN => k_is)
      (case hdN => k_is)
      (case haN => k_is)
      (case hnN => k_is)
      (case htN => k_is)
      (case hmN => k_is)
      (case veN => kernel_rfl)
      (case qW => kernel_rfl)
      (case pW => k_is)
      (case sW => k_is)
      (case tW => k_is)
      (case hgW => k_is)
      (case hkW => k_is)
      (case hdW => k_is)
      (case haW => k_is)
      (case hnW => k_is)
      (case htW => k_is)
      (case hmW => k_is)
      (case veW => kernel_rfl)
      (case nn => kernel_rfl)
      (case wn => kernel_rfl)
      (case ww => kernel_rfl)
      (case un => kernel_rfl)
      (case uw => kernel_rfl)
      (case uu => kernel_rfl)
      (case c0 => k_is)
      (case c1 => k_is)
      (case c2 => k_is)
      (case c3 => k_is)
      (case cg => k_is)
      (case ce => k_is)
      (case cc => rfl)
      (case r0 => (intro H; refine' Lo.da_row ?x ?y; (case x => k_is); (case y => rfl)))
      (case r1 => (intro H; refine' Lo.da_row ?x ?y; (case x => k_is); (case y => rfl)))
      (case r2 => (intro H; refine' Lo.da_row ?x ?y; (case x => k_is); (case y => rfl)))
      (case r3 => (intro H; refine' Lo.da_row ?x ?y; (case x => k_is); (case y => rfl)))
