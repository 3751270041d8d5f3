import PyProof.Rows.All
import Wide.All
import OpenK.AllK
import Wide.FinOn
import HandS.ForMost
import HandS.ForExc
import HandS.Zip
import HandS.Deep
import HandS.TupAny
import HandS.TupLe
import HandS.IsInst
import KE.GoesEnum
import HandS.Conv
import KE.SortData
import KE.DataMinMax
import HandS.SetFor
import HandS.Strs
import HandS.TupMul
import PySem.Challenge.RW_museumloans_k30_whole_two_parts
set_option Elab.async false
set_option linter.all false
set_option maxRecDepth 100000
set_option maxHeartbeats 4000000
namespace PL
open PySem PySem.Spec PyProof.Rows L2

abbrev Sg := L2.St
/-! ## heaps, masks -/
def Ex (H H' : Hp) : Prop := ∀ a o, H a = some o → H' a = some o
theorem Ex.refl (H : Hp) : Ex H H := fun _ _ h => h
theorem Ex.trans {H H1 H2 : Hp} (a : Ex H H1) (b : Ex H1 H2) : Ex H H2 := fun x o h => b x o (a x o h)
theorem Ex.new {H : Hp} {p : Addr} {o : HO} (h : H p = none) : Ex H (upd H p o) := fun a u e => by
  rw [upd_ne (ne_of_none e h)]
  exact e
def msk (O : List Addr) (H : Hp) : Hp := fun a => if a ∈ O then none else H a
theorem msk_in {O : List Addr} {H : Hp} {a : Addr} (h : a ∈ O) : msk O H a = none := if_pos h
theorem msk_out {O : List Addr} {H : Hp} {a : Addr} (h : a ∉ O) : msk O H a = H a := if_neg h
theorem msk_some {O : List Addr} {H : Hp} {a : Addr} {o : HO} (h : msk O H a = some o) : a ∉ O ∧ H a = some o := by
  by_cases c : a ∈ O
  · rw [msk_in c] at h; cases h
  · rw [msk_out c] at h; exact ⟨c, h⟩
theorem msk_nil (H : Hp) : msk [] H = H := by
  funext a
  exact msk_out (by simp)
theorem Ex.msk {O : List Addr} {H H' : Hp} (e : Ex H H') : Ex (msk O H) (msk O H') := fun a o h => by
  obtain ⟨h1, h2⟩ := msk_some h
  rw [msk_out h1]
  exact e a o h2
theorem Ex.unmsk {O : List Addr} {H : Hp} : Ex (PL.msk O H) H := fun a o h => (msk_some h).2
theorem Ex.mskSub {O O' : List Addr} {H : Hp} (h : ∀ a ∈ O', a ∈ O) : Ex (PL.msk O H) (PL.msk O' H) := fun a o e => by
  obtain ⟨h1, h2⟩ := msk_some e
  rw [msk_out fun z => h1 (h a z)]
  exact h2
/-- what is masked is allocated -/
def Al (O : List Addr) (H : Hp) : Prop := ∀ a ∈ O, H a ≠ none
theorem Al.ex {O : List Addr} {H H' : Hp} (a : Al O H) (e : Ex H H') : Al O H' := fun b hb z => by
  cases q : H b with
  | none => exact a b hb q
  | some o => rw [e b o q] at z; cases z
theorem Al.out {O : List Addr} {H : Hp} {p : Addr} (a : Al O H) (h : H p = none) : p ∉ O := fun z => a p z h
theorem msk_upd {O : List Addr} {H : Hp} {p : Addr} {o : HO} (h : p ∉ O) : msk O (upd H p o) p = some o := by
  rw [msk_out h, upd_same]

/-! ## data in a heap -/
abbrev big : Nat := 4096
theorem big_line : big < sizeLine := by decide
theorem le_line {n : Nat} (h : n ≤ big) : n ≤ sizeLine := Nat.le_of_lt (Nat.lt_of_le_of_lt h big_line)
mutual
inductive Rp (H : Hp) : V → PyData → Prop
  | non : Rp H .non .none
  | bl (b : Bool) : Rp H (.bl b) (.bool b)
  | int (i : Int) : Rp H (.int i) (.int i)
  | str (x : Str) : x.length ≤ big → Rp H (.str x) (.str x)
  | lst {a : Addr} {xs : List V} {ds : List PyData} : H a = some (.lst xs) → ds.length ≤ big → RpA H xs ds → Rp H (.ref a) (.list ds)
  | tup {a : Addr} {xs : List V} {ds : List PyData} : H a = some (.tup xs) → ds.length ≤ big → RpA H xs ds → Rp H (.ref a) (.tuple ds)
inductive RpA (H : Hp) : List V → List PyData → Prop
  | nil : RpA H [] []
  | cons {v : V} {vs : List V} {d : PyData} {ds : List PyData} : Rp H v d → RpA H vs ds → RpA H (v :: vs) (d :: ds)
end
section
variable {H H' : Hp}
mutual
theorem Rp.ex (e : Ex H H') : ∀ (d : PyData) (v : V), Rp H v d → Rp H' v d
  | .none, _, h => by cases h; exact .non
  | .bool b, _, h => by cases h; exact .bl b
  | .int i, _, h => by cases h; exact .int i
  | .str x, _, h => by cases h with | str _ l => exact .str x l
  | .list ds, _, h => by cases h with | lst h1 h2 h3 => exact .lst (e _ _ h1) h2 (RpA.ex e ds _ h3)
  | .tuple ds, _, h => by cases h with | tup h1 h2 h3 => exact .tup (e _ _ h1) h2 (RpA.ex e ds _ h3)
  | .dict _, _, h => by cases h
theorem RpA.ex (e : Ex H H') : ∀ (ds : List PyData) (vs : List V), RpA H vs ds → RpA H' vs ds
  | [], _, h => by cases h; exact .nil
  | d :: ds, _, h => by cases h with | cons h1 h2 => exact .cons (Rp.ex e d _ h1) (RpA.ex e ds _ h2)
end
mutual
theorem Rp.dp {K : PySem.W.Frag} : ∀ (d : PyData) (v : V), Rp H v d → Dp K H v d
  | .none, _, h => by cases h; exact .non
  | .bool b, _, h => by cases h; exact .bl b
  | .int i, _, h => by cases h; exact .int i
  | .str x, _, h => by cases h; exact .str x
  | .list ds, _, h => by cases h with | lst h1 h2 h3 => exact .lst (.inl (.inl h1)) (RpA.dp ds _ h3)
  | .tuple ds, _, h => by cases h with | tup h1 h2 h3 => exact .tup (.inl (.inl h1)) (RpA.dp ds _ h3)
  | .dict _, _, h => by cases h
theorem RpA.dp {K : PySem.W.Frag} : ∀ (ds : List PyData) (vs : List V), RpA H vs ds → DpAll K H vs ds
  | [], _, h => by cases h; exact .nil
  | d :: ds, _, h => by cases h with | cons h1 h2 => exact .cons (Rp.dp d _ h1) (RpA.dp ds _ h2)
end
theorem Rp.mono {v : V} {d : PyData} (h : Rp H v d) (e : Ex H H') : Rp H' v d := Rp.ex e d v h
theorem RpA.mono {vs : List V} {ds : List PyData} (h : RpA H vs ds) (e : Ex H H') : RpA H' vs ds := RpA.ex e ds vs h
theorem RpA.len : ∀ {vs : List V} {ds : List PyData}, RpA H vs ds → vs.length = ds.length
  | _, [], h => by cases h; rfl
  | _, d :: ds, h => by
    cases h with
    | cons h1 h2 => rw [List.length_cons, List.length_cons, RpA.len h2]
theorem RpA.append : ∀ {vs ws : List V} {ds es : List PyData}, RpA H vs ds → RpA H ws es → RpA H (vs ++ ws) (ds ++ es)
  | _, _, [], _, h, h' => by cases h; exact h'
  | _, _, d :: ds, _, h, h' => by
    cases h with
    | cons h1 h2 => exact .cons h1 (RpA.append h2 h')
theorem RpA.get : ∀ {vs : List V} {ds : List PyData} {i : Nat} {d : PyData}, RpA H vs ds → ds[i]? = some d → ∃ v, vs[i]? = some v ∧ Rp H v d
  | _, [], _, _, h, e => by simp at e
  | _, d :: ds, 0, _, h, e => by
    cases h with
    | cons h1 h2 =>
      have e' : d = _ := Option.some.inj e
      subst e'
      exact ⟨_, rfl, h1⟩
  | _, d :: ds, i + 1, x, h, e => by
    cases h with
    | cons h1 h2 =>
      obtain ⟨v, q1, q2⟩ := RpA.get (i := i) (d := x) h2 (by simpa using e)
      exact ⟨v, by simpa using q1, q2⟩
theorem RpA.getV : ∀ {vs : List V} {ds : List PyData} {i : Nat} {v : V}, RpA H vs ds → vs[i]? = some v → ∃ d, ds[i]? = some d ∧ Rp H v d
  | _, [], _, _, h, e => by cases h; simp at e
  | _, d :: ds, 0, _, h, e => by
    cases h with
    | cons h1 h2 =>
      have e' := Option.some.inj e
      subst e'
      exact ⟨_, rfl, h1⟩
  | _, d :: ds, i + 1, x, h, e => by
    cases h with
    | cons h1 h2 =>
      obtain ⟨v, q1, q2⟩ := RpA.getV (i := i) (v := x) h2 (by simpa using e)
      exact ⟨v, by simpa using q1, q2⟩
theorem RpA.drop : ∀ {vs : List V} {ds : List PyData} (n : Nat), RpA H vs ds → RpA H (vs.drop n) (ds.drop n)
  | _, _, 0, h => h
  | _, [], n + 1, h => by cases h; exact .nil
  | _, d :: ds, n + 1, h => by cases h with | cons h1 h2 => exact RpA.drop n h2
theorem RpA.take : ∀ {vs : List V} {ds : List PyData} (n : Nat), RpA H vs ds → RpA H (vs.take n) (ds.take n)
  | _, _, 0, h => .nil
  | _, [], n + 1, h => by cases h; exact .nil
  | _, d :: ds, n + 1, h => by cases h with | cons h1 h2 => exact .cons h1 (RpA.take n h2)
theorem RpA.ints : ∀ {vs : List V} {ns : List Int}, RpA H vs (ns.map PyData.int) → vs = ns.map V.int
  | _, [], h => by cases h; rfl
  | _, n :: ns, h => by
    cases h with
    | cons h1 h2 => cases h1; rw [RpA.ints h2]; rfl
theorem RpA.bools : ∀ {vs : List V} {ns : List Bool}, RpA H vs (ns.map PyData.bool) → vs = ns.map V.bl
  | _, [], h => by cases h; rfl
  | _, n :: ns, h => by
    cases h with
    | cons h1 h2 => cases h1; rw [RpA.bools h2]; rfl
end

/-! ## slots -/
/-- a thing that may change, at fixed places -/
structure Mt where
  fp : List Addr
  P : Hp → Hp → V → Prop
  mono : ∀ {Hm Hm' H H' : Hp} {v : V}, P Hm H v → Ex Hm Hm' → (∀ a ∈ fp, H' a = H a) → P Hm' H' v
  al : ∀ {Hm H : Hp} {v : V}, P Hm H v → ∀ a ∈ fp, H a ≠ none
inductive SD where
  | un
  | dat (d : PyData)
  | own (ds : List PyData)
  | mt (m : Mt)
inductive Sl (Hm H : Hp) : List SD → Sg → List Addr → Prop
  | nil : Sl Hm H [] [] []
  | un {ρ : List SD} {σ : Sg} {as : List Addr} {x : Option V} : Sl Hm H ρ σ as → Sl Hm H (.un :: ρ) (x :: σ) as
  | dat {ρ : List SD} {σ : Sg} {as : List Addr} {v : V} {d : PyData} : Rp Hm v d → Sl Hm H ρ σ as → Sl Hm H (.dat d :: ρ) (some v :: σ) as
  | own {ρ : List SD} {σ : Sg} {as : List Addr} {a : Addr} {xs : List V} {ds : List PyData} : H a = some (.lst xs) → ds.length ≤ big → RpA Hm xs ds → a ∉ as → Sl Hm H ρ σ as → Sl Hm H (.own ds :: ρ) (some (.ref a) :: σ) (a :: as)
  | mt {ρ : List SD} {σ : Sg} {as : List Addr} {v : V} {m : Mt} : m.P Hm H v → (∀ a ∈ m.fp, a ∉ as) → Sl Hm H ρ σ as → Sl Hm H (.mt m :: ρ) (some v :: σ) (m.fp ++ as)
section
variable {Hm Hm' H H' : Hp}
theorem Sl.len {ρ : List SD} {σ : Sg} {as : List Addr} (h : Sl Hm H ρ σ as) : σ.length = ρ.length := by
  induction h with
  | nil => rfl
  | un _ ih => simp [ih]
  | dat _ _ ih => simp [ih]
  | own _ _ _ _ _ ih => simp [ih]
  | mt _ _ _ ih => simp [ih]
theorem Sl.al {ρ : List SD} {σ : Sg} {as : List Addr} (h : Sl Hm H ρ σ as) : ∀ a ∈ as, H a ≠ none := by
  induction h with
  | nil => intro a ha; simp at ha
  | un _ ih => exact ih
  | dat _ _ ih => exact ih
  | own h1 _ _ _ _ ih =>
    intro b hb
    rcases List.mem_cons.mp hb with e | hb
    · rw [e, h1]; exact fun z => nomatch z
    · exact ih b hb
  | mt h1 _ _ ih =>
    intro b hb
    rcases List.mem_append.mp hb with hb | hb
    · exact Mt.al _ h1 b hb
    · exact ih b hb
theorem Sl.mono {ρ : List SD} {σ : Sg} {as : List Addr} (h : Sl Hm H ρ σ as) (e : Ex Hm Hm') (k : ∀ a ∈ as, H' a = H a) : Sl Hm' H' ρ σ as := by
  induction h with
  | nil => exact .nil
  | un _ ih => exact .un (ih k)
  | dat r _ ih => exact .dat (r.mono e) (ih k)
  | own h1 h2 h3 h4 _ ih =>
    refine .own ?_ h2 (h3.mono e) h4 (ih fun b hb => k b (List.mem_cons_of_mem _ hb))
    rw [k _ List.mem_cons_self]
    exact h1
  | mt h1 h2 _ ih =>
    exact .mt (Mt.mono _ h1 e fun a ha => k a (List.mem_append_left _ ha)) h2 (ih fun b hb => k b (List.mem_append_right _ hb))
theorem Sl.get {ρ : List SD} {σ : Sg} {as : List Addr} (h : Sl Hm H ρ σ as) : ∀ {i : Nat} {d : PyData}, ρ[i]? = some (.dat d) → ∃ v, σ[i]? = some (some v) ∧ Rp Hm v d := by
  induction h with
  | nil => intro i d e; simp at e
  | un _ ih =>
    intro i d e
    cases i with
    | zero => simp at e
    | succ i => simpa using ih (by simpa using e)
  | dat r _ ih =>
    intro i d e
    cases i with
    | zero =>
      have e' := SD.dat.inj (Option.some.inj (by simpa using e))
      subst e'
      exact ⟨_, rfl, r⟩
    | succ i => simpa using ih (by simpa using e)
  | own _ _ _ _ _ ih =>
    intro i d e
    cases i with
    | zero => simp at e
    | succ i => simpa using ih (by simpa using e)
  | mt _ _ _ ih =>
    intro i d e
    cases i with
    | zero => simp at e
    | succ i => simpa using ih (by simpa using e)
theorem Sl.getM {ρ : List SD} {σ : Sg} {as : List Addr} (h : Sl Hm H ρ σ as) : ∀ {i : Nat} {m : Mt}, ρ[i]? = some (.mt m) → ∃ v, σ[i]? = some (some v) ∧ m.P Hm H v ∧ ∀ a ∈ m.fp, a ∈ as := by
  induction h with
  | nil => intro i d e; simp at e
  | un _ ih =>
    intro i d e
    cases i with
    | zero => simp at e
    | succ i => simpa using ih (by simpa using e)
  | dat r _ ih =>
    intro i d e
    cases i with
    | zero => simp at e
    | succ i => simpa using ih (by simpa using e)
  | own _ _ _ _ _ ih =>
    intro i d e
    cases i with
    | zero => simp at e
    | succ i =>
      obtain ⟨v, h1, h2, h3⟩ := ih (i := i) (m := d) (by simpa using e)
      exact ⟨v, by simpa using h1, h2, fun a ha => List.mem_cons_of_mem _ (h3 a ha)⟩
  | mt q _ _ ih =>
    intro i d e
    cases i with
    | zero =>
      have e' := SD.mt.inj (Option.some.inj (by simpa using e))
      subst e'
      exact ⟨_, rfl, q, fun a ha => List.mem_append_left _ ha⟩
    | succ i =>
      obtain ⟨v, h1, h2, h3⟩ := ih (i := i) (m := d) (by simpa using e)
      exact ⟨v, by simpa using h1, h2, fun a ha => List.mem_append_right _ (h3 a ha)⟩
end

/-- the state: F stays; O0: the callers' own places; O1: this def's own places -/
structure SA (F : Hp) (O0 O1 : List Addr) (ρ : List SD) (σ : Sg) (H : Hp) : Prop where
  fr : Ex F H
  sl : Sl (msk (O1 ++ O0) H) H ρ σ O1
  new : ∀ a ∈ O1, F a = none ∧ a ∉ O0
  al0 : Al O0 H
section
variable {F H H' : Hp} {O0 O1 : List Addr} {ρ : List SD} {σ : Sg}
theorem SA.al (s : SA F O0 O1 ρ σ H) : Al (O1 ++ O0) H := fun a ha => (List.mem_append.mp ha).elim (fun z => s.sl.al a z) fun z => s.al0 a z
theorem SA.ex (s : SA F O0 O1 ρ σ H) (e : Ex H H') : SA F O0 O1 ρ σ H' := by
  refine ⟨s.fr.trans e, s.sl.mono e.msk fun a ha => ?_, s.new, s.al0.ex e⟩
  cases q : H a with
  | none => exact absurd q (s.sl.al a ha)
  | some o => exact e a o q
end
end PL

namespace PL
open PySem PySem.Spec PyProof.Rows L2

/-! ## canonical readings -/
def tP (ρ : List SD) (D : PyData → Prop) : TE := fun σ H Q => ∃ F O0 O1, SA F O0 O1 ρ σ H ∧
  ∀ v d H', SA F O0 O1 ρ σ H' → Ex (msk (O1 ++ O0) H) (msk (O1 ++ O0) H') → D d → Rp (msk (O1 ++ O0) H') v d → Q v H'
def tT (ρ : List SD) (B : Bool → Prop) : TT := fun σ H Q => ∃ F O0 O1, SA F O0 O1 ρ σ H ∧
  ∀ b H', SA F O0 O1 ρ σ H' → Ex (msk (O1 ++ O0) H) (msk (O1 ++ O0) H') → B b → Q b H'
def tAs (ρ : List SD) (D : List PyData → Prop) : TA := fun σ H Q => ∃ F O0 O1, SA F O0 O1 ρ σ H ∧
  ∀ vs ds H', SA F O0 O1 ρ σ H' → Ex (msk (O1 ++ O0) H) (msk (O1 ++ O0) H') → D ds → RpA (msk (O1 ++ O0) H') vs ds → Q vs H'
abbrev EvN (X : Cx) (ρ : List SD) (e : Expr) (D : PyData → Prop) : Prop := PE X e (tP ρ D)
abbrev Ev (X : Cx) (ρ : List SD) (e : Expr) (d : PyData) : Prop := PE X e (tP ρ (Eq d))
abbrev EvT (X : Cx) (ρ : List SD) (e : Expr) (b : Bool) : Prop := PT X e (tT ρ (Eq b))
abbrev EvA (X : Cx) (ρ : List SD) (es : List Expr) (ds : List PyData) : Prop := PA X es (tAs ρ (Eq ds))
abbrev EvAN (X : Cx) (ρ : List SD) (es : List Expr) (D : List PyData → Prop) : Prop := PA X es (tAs ρ D)

section
variable {X : Cx} {e : Expr}
theorem pe_imp {t t' : TE} (h : PE X e t) (k : ∀ σ H Q, t' σ H Q → t σ H Q) : PE X e t' := ⟨fun pins s σ H Q I q => h.run pins s σ H Q I (k σ H Q q)⟩
theorem pt_imp {t t' : TT} (h : PT X e t) (k : ∀ σ H Q, t' σ H Q → t σ H Q) : PT X e t' := ⟨fun pins s σ H Q I q => h.run pins s σ H Q I (k σ H Q q)⟩
theorem pw_imp {t t' : TT} (h : PW X e t) (k : ∀ σ H Q, t' σ H Q → t σ H Q) : PW X e t' := ⟨fun wh pins s σ H Q I q => h.run wh pins s σ H Q I (k σ H Q q)⟩
theorem pa_imp {es : List Expr} {t t' : TA} (h : PA X es t) (k : ∀ σ H Q, t' σ H Q → t σ H Q) : PA X es t' := ⟨fun pos pins s σ H Q I q => h.run pos pins s σ H Q I (k σ H Q q)⟩
theorem pts_imp {es : List Expr} {t t' : TT} (h : PTs X es t) (k : ∀ σ H Q, t' σ H Q → t σ H Q) : PTs X es t' := ⟨fun pins s σ H Q I q => h.run pins s σ H Q I (k σ H Q q)⟩
theorem pi_imp {tg : Expr} {t t' : TI} (h : PI X tg e t) (k : ∀ σ H Q, t' σ H Q → t σ H Q) : PI X tg e t' := ⟨fun pins s σ H Q I q => h.run pins s σ H Q I (k σ H Q q)⟩
theorem pg_imp {t t' : TG} (h : PG X e t) (k : ∀ v σ H Q, t' v σ H Q → t v σ H Q) : PG X e t' := ⟨fun pins s σ H v u Q I r q => h.run pins s σ H v u Q I r (k v σ H Q q)⟩
theorem ps_imp {st : Stmt} {t t' : TS} (h : PS X st t) (k : ∀ D σ H, t' D σ H → t D σ H) : PS X st t' := ⟨fun pins s σ H D I q => h.run pins s σ H D I (k D σ H q)⟩
theorem pss_imp {st : List Stmt} {t t' : TS} (h : PSs X st t) (k : ∀ D σ H, t' D σ H → t D σ H) : PSs X st t' := ⟨fun pins s σ H D I q => h.run pins s σ H D I (k D σ H q)⟩
/-- any of several readings -/
theorem pe_any {ι : Sort _} {p : ι → Prop} {t : ι → TE} (h : ∀ a, p a → PE X e (t a)) : PE X e (fun σ H Q => ∃ a, p a ∧ t a σ H Q) :=
  ⟨fun pins s σ H Q I ⟨a, ha, q⟩ => (h a ha).run pins s σ H Q I q⟩
theorem pts_any {ι : Sort _} {es : List Expr} {p : ι → Prop} {t : ι → TT} (h : ∀ a, p a → PTs X es (t a)) : PTs X es (fun σ H Q => ∃ a, p a ∧ t a σ H Q) :=
  ⟨fun pins s σ H Q I ⟨a, ha, q⟩ => (h a ha).run pins s σ H Q I q⟩
theorem pg_any {ι : Sort _} {p : ι → Prop} {t : ι → TG} (h : ∀ a, p a → PG X e (t a)) : PG X e (fun v σ H Q => ∃ a, p a ∧ t a v σ H Q) :=
  ⟨fun pins s σ H v u Q I r ⟨a, ha, q⟩ => (h a ha).run pins s σ H v u Q I r q⟩
theorem pss_any {ι : Sort _} {st : List Stmt} {p : ι → Prop} {t : ι → TS} (h : ∀ a, p a → PSs X st (t a)) : PSs X st (fun D σ H => ∃ a, p a ∧ t a D σ H) :=
  ⟨fun pins s σ H D I ⟨a, ha, q⟩ => (h a ha).run pins s σ H D I q⟩

/-! ## what may follow a value -/
/-- behind an operation on values over H: whatever of D comes, over a grown heap -/
def Kt (O : List Addr) (H : Hp) (D : PyData → Prop) (Q : VK) : Prop := ∀ v d H', Ex H H' → D d → Rp (msk O H') v d → Q v H'
theorem Kt.here {O : List Addr} {H : Hp} {D : PyData → Prop} {Q : VK} {v : V} {d : PyData} (k : Kt O H D Q) (hd : D d) (r : Rp (msk O H) v d) : Q v H := k v d H (Ex.refl H) hd r
theorem Kt.tup {O : List Addr} {H : Hp} {D : PyData → Prop} {Q : VK} {xs : List V} {ds : List PyData} (k : Kt O H D Q) (al : Al O H) (hd : D (.tuple ds)) (hl : ds.length ≤ big) (r : RpA (msk O H) xs ds) :
    ∀ p, H p = none → Q (.ref p) (upd H p (.tup xs)) := fun p hp =>
  k _ _ _ (Ex.new hp) hd (.tup (msk_upd (al.out hp)) hl (r.mono (Ex.new hp).msk))
theorem Kt.lst {O : List Addr} {H : Hp} {D : PyData → Prop} {Q : VK} {xs : List V} {ds : List PyData} (k : Kt O H D Q) (al : Al O H) (hd : D (.list ds)) (hl : ds.length ≤ big) (r : RpA (msk O H) xs ds) :
    ∀ p, H p = none → Q (.ref p) (upd H p (.lst xs)) := fun p hp =>
  k _ _ _ (Ex.new hp) hd (.lst (msk_upd (al.out hp)) hl (r.mono (Ex.new hp).msk))
/-- two-place operations, calls on data -/
def OpD (r : R2) (da db : PyData) (D : PyData → Prop) : Prop := ∀ O H x y Q, Al O H → Rp (msk O H) x da → Rp (msk O H) y db → Kt O H D Q → r x y H Q
def CD (r : List V → Hp → VK → Prop) (ds : List PyData) (D : PyData → Prop) : Prop := ∀ O H xs Q, Al O H → RpA (msk O H) xs ds → Kt O H D Q → r xs H Q
def UnD (r : V → Hp → VK → Prop) (da : PyData) (D : PyData → Prop) : Prop := ∀ O H x Q, Al O H → Rp (msk O H) x da → Kt O H D Q → r x H Q

section
variable {ρ : List SD} {F H H1 H2 : Hp} {O0 O1 : List Addr} {σ : Sg} {D : PyData → Prop} {Q : VK}
/-- from the state behind an expression on -/
theorem SA.kt (s : SA F O0 O1 ρ σ H1) (e : Ex (msk (O1 ++ O0) H) (msk (O1 ++ O0) H1))
    (k : ∀ v d H', SA F O0 O1 ρ σ H' → Ex (msk (O1 ++ O0) H) (msk (O1 ++ O0) H') → D d → Rp (msk (O1 ++ O0) H') v d → Q v H') : Kt (O1 ++ O0) H1 D Q := fun v d H' e' hd r =>
  k v d H' (s.ex e') (e.trans e'.msk) hd r
theorem tOp_of {r : R2} {A B : PyData → Prop} (hr : ∀ da db, A da → B db → OpD r da db D) (σ : Sg) (H : Hp) (Q : VK) (h : tP ρ D σ H Q) : tOp r (tP ρ A) (tP ρ B) σ H Q := by
  obtain ⟨F, O0, O1, s, k⟩ := h
  refine ⟨F, O0, O1, s, fun x da H1 s1 e1 ha r1 => ⟨F, O0, O1, s1, fun y db H2 s2 e2 hb r2 => ?_⟩⟩
  exact hr da db ha hb (O1 ++ O0) H2 x y Q s2.al (r1.mono e2) r2 (s2.kt (e1.trans e2) k)
end

/-! ## expressions -/
section
variable {ρ : List SD} {a b c : Expr} {es : List Expr} {da db d : PyData} {A B D : PyData → Prop} {pos p : Pos} {x : Str}
theorem evn_imp (h : EvN X ρ a A) (k : ∀ d, A d → D d) : EvN X ρ a D := pe_imp h fun σ H Q ⟨F, O0, O1, s, q⟩ => ⟨F, O0, O1, s, fun v d H' s' e' hd r => q v d H' s' e' (k d hd) r⟩
theorem ev_eq' (h : Ev X ρ a da) (k : da = db) : Ev X ρ a db := by subst k; exact h
theorem ev_var {i : Nat} (hi : X.N[i]? = some x := by rfl) (hd : ρ[i]? = some (.dat d) := by rfl) (hv : Vis X.env.scope x := by first | exact Or.inl rfl | exact Or.inr (Or.inl rfl) | exact Or.inr (Or.inr rfl)) (h1 : (x == ("__debug__" : Str)) = false := by decide)
    (h2 : (x == ("__classdict__" : Str)) = false := by decide) : Ev X ρ (.Name x pos) d := by
  refine pe_imp (pe_var hi hv h1 h2) fun σ H Q ⟨F, O0, O1, s, q⟩ => ?_
  obtain ⟨v, e1, r⟩ := s.sl.get hd
  exact ⟨v, e1, q v d H s (Ex.refl _) rfl r⟩
theorem tC_of {v : V} (r : ∀ H, Rp H v d) (σ : Sg) (H : Hp) (Q : VK) (h : tP ρ (Eq d) σ H Q) : tC v σ H Q := by
  obtain ⟨F, O0, O1, s, k⟩ := h
  exact k v d H s (Ex.refl _) rfl (r _)
theorem ev_int {i : Int} {j} : Ev X ρ (.Constant (.int i) j pos) (.int i) := pe_imp pe_int (tC_of fun _ => .int i)
theorem ev_bl {i : Bool} {j} : Ev X ρ (.Constant (.bool i) j pos) (.bool i) := pe_imp pe_bl (tC_of fun _ => .bl i)
theorem ev_non {j} : Ev X ρ (.Constant .none j pos) .none := pe_imp pe_non (tC_of fun _ => .non)
theorem ev_str {z : Str} {j} (hl : z.length ≤ big := by decide +kernel) : Ev X ρ (.Constant (.str z) j pos) (.str z) := pe_imp pe_str (tC_of fun _ => .str z hl)
/-- a module's int constant -/
theorem ev_globI {i : Int} {t : Tok} (hg : Gl X x) (hm : X.mg x = some (.int i t)) (hd : (x == ("__debug__" : Str)) = false := by decide) : Ev X ρ (.Name x pos) (.int i) :=
  pe_imp (pe_glob (v := .int i) hg hm ⟨t, rfl⟩ hd) (tC_of fun _ => .int i)

theorem evn_bin {op : Operator} {r : R2} (ho : OpR X (binaryOp op) r) (ha : EvN X ρ a A) (hb : EvN X ρ b B) (hr : ∀ da db, A da → B db → OpD r da db D) : EvN X ρ (.BinOp a op b pos) D :=
  pe_imp (pe_op ho ha hb) (tOp_of hr)
theorem ev_bin {op : Operator} {r : R2} (ho : OpR X (binaryOp op) r) (ha : Ev X ρ a da) (hb : Ev X ρ b db) (hr : OpD r da db (Eq d)) : Ev X ρ (.BinOp a op b pos) d :=
  evn_bin ho ha hb fun _ _ e1 e2 => by subst e1; subst e2; exact hr
/-- ints -/
theorem od_I0 {g : Int → Int → Int} {i j : Int} : OpD (rI0 fun i j => .int (g i j)) (.int i) (.int j) (Eq (.int (g i j))) := fun O H x y Q al hx hy k => by
  cases hx; cases hy
  exact ⟨i, j, rfl, rfl, k.here rfl (.int _)⟩
theorem od_B0 {g : Int → Int → Bool} {i j : Int} : OpD (rI0 fun i j => .bl (g i j)) (.int i) (.int j) (Eq (.bool (g i j))) := fun O H x y Q al hx hy k => by
  cases hx; cases hy
  exact ⟨i, j, rfl, rfl, k.here rfl (.bl _)⟩
theorem od_I {C : Int → Int → Prop} {g : Int → Int → Int} {i j : Int} (hc : C i j) : OpD (rI C fun i j => .int (g i j)) (.int i) (.int j) (Eq (.int (g i j))) := fun O H x y Q al hx hy k => by
  cases hx; cases hy
  exact ⟨i, j, rfl, rfl, hc, k.here rfl (.int _)⟩
section
variable {i j : Int}
theorem ev_add (ha : Ev X ρ a (.int i)) (hb : Ev X ρ b (.int j)) : Ev X ρ (.BinOp a .Add b pos) (.int (i + j)) := ev_bin op_add ha hb od_I0
theorem ev_sub (ha : Ev X ρ a (.int i)) (hb : Ev X ρ b (.int j)) : Ev X ρ (.BinOp a .Sub b pos) (.int (i - j)) := ev_bin op_sub ha hb od_I0
theorem ev_mul (ha : Ev X ρ a (.int i)) (hb : Ev X ρ b (.int j)) (hc : CMul i j) : Ev X ρ (.BinOp a .Mult b pos) (.int (i * j)) := ev_bin op_mul ha hb (od_I hc)
theorem ev_mod (ha : Ev X ρ a (.int i)) (hb : Ev X ρ b (.int j)) (hc : 0 < j) : Ev X ρ (.BinOp a .Mod b pos) (.int (i % j)) := ev_bin op_mod ha hb (od_I (C := fun _ j => 0 < j) hc)
theorem ev_fdiv (ha : Ev X ρ a (.int i)) (hb : Ev X ρ b (.int j)) (hc : CDiv i j) : Ev X ρ (.BinOp a .FloorDiv b pos) (.int (i / j)) := ev_bin op_fdiv ha hb (od_I hc)
theorem ev_neg (ha : Ev X ρ a (.int i)) : Ev X ρ (.UnaryOp .USub a pos) (.int (-i)) := pe_imp (pe_un un_neg ha) fun σ H Q ⟨F, O0, O1, s, k⟩ => ⟨F, O0, O1, s, fun v d H1 s1 e1 hd r => by
  subst hd; cases r
  exact ⟨i, rfl, k _ _ H1 s1 e1 rfl (.int _)⟩⟩
end
/-! comparisons: as a value, as a test -/
theorem ev_cmp {op : CmpOp} {r : R2} (ho : OpR X (compareOp op) r) (ha : Ev X ρ a da) (hb : Ev X ρ b db) (hr : OpD r da db (Eq d)) (hm : behindInMarks op b = false) : Ev X ρ (.Compare a [op] [b] pos) d :=
  pe_imp (pe_cmpR ho ha hb hm) (tOp_of fun _ _ e1 e2 => by subst e1; subst e2; exact hr)
theorem et_cmp {op : CmpOp} {r : R2} {k : Bool} (ho : OpR X (compareOp op) r) (ha : Ev X ρ a da) (hb : Ev X ρ b db) (hr : OpD r da db (Eq (.bool k))) (hm : behindInMarks op b = false) : EvT X ρ (.Compare a [op] [b] pos) k :=
  pt_imp (pt_cmpR ho ha hb hm) fun σ H Q ⟨F, O0, O1, s, q⟩ => tOp_of (D := Eq (.bool k)) (fun _ _ e1 e2 => by subst e1; subst e2; exact hr) σ H _ ⟨F, O0, O1, s, fun v d H' s' e' hd r => by
    subst hd; cases r
    exact ⟨k, rfl, q k H' s' e' rfl⟩⟩
/-- a value that is a bool, as a test -/
theorem et_val {k : Bool} (h : Ev X ρ a (.bool k)) (he : ∀ whole, isTrue a X.env whole = (do let v ← whole; standAt a.pos; holding [v] (truthy v)) := by intro _; rfl) : EvT X ρ a k :=
  pt_imp (pt_val h he) fun σ H Q ⟨F, O0, O1, s, q⟩ => ⟨F, O0, O1, s, fun v d H' s' e' hd r => by
    subst hd; cases r
    exact ⟨k, rfl, q k H' s' e' rfl⟩⟩
theorem et_eq' {k k' : Bool} (h : EvT X ρ a k) (e : k = k') : EvT X ρ a k' := by subst e; exact h
section
variable {i j : Int}
theorem ev_lt (ha : Ev X ρ a (.int i)) (hb : Ev X ρ b (.int j)) : Ev X ρ (.Compare a [.Lt] [b] pos) (.bool (decide (i < j))) := ev_cmp op_lt ha hb od_B0 (nomark _)
theorem ev_le (ha : Ev X ρ a (.int i)) (hb : Ev X ρ b (.int j)) : Ev X ρ (.Compare a [.LtE] [b] pos) (.bool (decide (i ≤ j))) := ev_cmp op_le ha hb od_B0 (nomark _)
theorem ev_gt (ha : Ev X ρ a (.int i)) (hb : Ev X ρ b (.int j)) : Ev X ρ (.Compare a [.Gt] [b] pos) (.bool (decide (j < i))) := ev_cmp op_gt ha hb od_B0 (nomark _)
theorem ev_ge (ha : Ev X ρ a (.int i)) (hb : Ev X ρ b (.int j)) : Ev X ρ (.Compare a [.GtE] [b] pos) (.bool (decide (j ≤ i))) := ev_cmp op_ge ha hb od_B0 (nomark _)
theorem et_lt (ha : Ev X ρ a (.int i)) (hb : Ev X ρ b (.int j)) : EvT X ρ (.Compare a [.Lt] [b] pos) (decide (i < j)) := et_cmp op_lt ha hb od_B0 (nomark _)
theorem et_le (ha : Ev X ρ a (.int i)) (hb : Ev X ρ b (.int j)) : EvT X ρ (.Compare a [.LtE] [b] pos) (decide (i ≤ j)) := et_cmp op_le ha hb od_B0 (nomark _)
theorem et_gt (ha : Ev X ρ a (.int i)) (hb : Ev X ρ b (.int j)) : EvT X ρ (.Compare a [.Gt] [b] pos) (decide (j < i)) := et_cmp op_gt ha hb od_B0 (nomark _)
theorem et_ge (ha : Ev X ρ a (.int i)) (hb : Ev X ρ b (.int j)) : EvT X ρ (.Compare a [.GtE] [b] pos) (decide (j ≤ i)) := et_cmp op_ge ha hb od_B0 (nomark _)
end
/-- == of data -/
theorem od_eq (sa : SeqAt.shaped da = true) (sb : SeqAt.shaped db = true) {K : PySem.W.Frag} : OpD (rEqD K) da db (Eq (.bool (PyData.eqv da db))) := fun O H x y Q al hx hy k =>
  ⟨da, db, (hx.mono Ex.unmsk).dp, (hy.mono Ex.unmsk).dp, sa, sb, k.here rfl (.bl _)⟩
theorem od_ne (sa : SeqAt.shaped da = true) (sb : SeqAt.shaped db = true) {K : PySem.W.Frag} : OpD (rNeD K) da db (Eq (.bool (!PyData.eqv da db))) := fun O H x y Q al hx hy k =>
  ⟨da, db, (hx.mono Ex.unmsk).dp, (hy.mono Ex.unmsk).dp, sa, sb, k.here rfl (.bl _)⟩
section
variable {n : Nat} {k : Bool}
theorem ev_eq (hr : Room n X.A) (ha : Ev X ρ a da) (hb : Ev X ρ b db) (sa : SeqAt.shaped da = true) (sb : SeqAt.shaped db = true) (e : PyData.eqv da db = k) : Ev X ρ (.Compare a [.Eq] [b] pos) (.bool k) := by
  subst e; exact ev_cmp (op_eqD hr.units) ha hb (od_eq sa sb) (nomark _)
theorem ev_ne (hr : Room n X.A) (ha : Ev X ρ a da) (hb : Ev X ρ b db) (sa : SeqAt.shaped da = true) (sb : SeqAt.shaped db = true) (e : (!PyData.eqv da db) = k) : Ev X ρ (.Compare a [.NotEq] [b] pos) (.bool k) := by
  subst e; exact ev_cmp (op_neD hr.units) ha hb (od_ne sa sb) (nomark _)
theorem et_eq (hr : Room n X.A) (ha : Ev X ρ a da) (hb : Ev X ρ b db) (sa : SeqAt.shaped da = true) (sb : SeqAt.shaped db = true) (e : PyData.eqv da db = k) : EvT X ρ (.Compare a [.Eq] [b] pos) k := by
  subst e; exact et_cmp (op_eqD hr.units) ha hb (od_eq sa sb) (nomark _)
theorem et_ne (hr : Room n X.A) (ha : Ev X ρ a da) (hb : Ev X ρ b db) (sa : SeqAt.shaped da = true) (sb : SeqAt.shaped db = true) (e : (!PyData.eqv da db) = k) : EvT X ρ (.Compare a [.NotEq] [b] pos) k := by
  subst e; exact et_cmp (op_neD hr.units) ha hb (od_ne sa sb) (nomark _)
end
def isNoneD : PyData → Bool
  | .none => true
  | _ => false
/-- is None -/
theorem od_isN {K : Bool} (hk : K = isNoneD da) : OpD (fun x y H Q => y = .non ∧ Q (.bl (decide (x = .non))) H) da .none (Eq (.bool K)) := fun O H x y Q al hx hy k => by
  subst hk
  cases hy
  refine ⟨rfl, k.here rfl ?_⟩
  cases hx <;> exact .bl _
theorem od_notN {K : Bool} (hk : K = !isNoneD da) : OpD (fun x y H Q => y = .non ∧ Q (.bl (!decide (x = .non))) H) da .none (Eq (.bool K)) := fun O H x y Q al hx hy k => by
  subst hk
  cases hy
  refine ⟨rfl, k.here rfl ?_⟩
  cases hx <;> exact .bl _
theorem ev_isN {k : Bool} (ha : Ev X ρ a da) (hb : Ev X ρ b .none) (hk : k = isNoneD da) : Ev X ρ (.Compare a [.Is] [b] pos) (.bool k) := ev_cmp op_isN ha hb (od_isN hk) (nomark _)
theorem ev_notN {k : Bool} (ha : Ev X ρ a da) (hb : Ev X ρ b .none) (hk : k = !isNoneD da) : Ev X ρ (.Compare a [.IsNot] [b] pos) (.bool k) := ev_cmp op_notN ha hb (od_notN hk) (nomark _)
theorem et_isN {k : Bool} (ha : Ev X ρ a da) (hb : Ev X ρ b .none) (hk : k = isNoneD da) : EvT X ρ (.Compare a [.Is] [b] pos) k := et_cmp op_isN ha hb (od_isN hk) (nomark _)
theorem et_notN {k : Bool} (ha : Ev X ρ a da) (hb : Ev X ρ b .none) (hk : k = !isNoneD da) : EvT X ρ (.Compare a [.IsNot] [b] pos) k := et_cmp op_notN ha hb (od_notN hk) (nomark _)
/-- chains of two -/
theorem tChain_of {r r' : R2} {dc : PyData} {k1 k2 : Bool} (h1 : OpD r da db (Eq (.bool k1))) (h2 : k1 = true → OpD r' db dc (Eq (.bool k2))) (σ : Sg) (H : Hp) (Q : VK) (h : tP ρ (Eq (.bool (k1 && k2))) σ H Q) :
    tChain r r' (tP ρ (Eq da)) (tP ρ (Eq db)) (tP ρ (Eq dc)) σ H Q := by
  obtain ⟨F, O0, O1, s, k⟩ := h
  refine ⟨F, O0, O1, s, fun x _ H1 s1 e1 ha r1 => ⟨F, O0, O1, s1, fun y _ H2 s2 e2 hb r2 => ?_⟩⟩
  subst ha; subst hb
  refine h1 (O1 ++ O0) H2 x y _ s2.al (r1.mono e2) r2 fun v _ H3 e3 hd r3 => ?_
  subst hd; cases r3
  refine ⟨k1, rfl, ?_⟩
  have s3 := s2.ex e3
  have e13 := (e1.trans e2).trans e3.msk
  cases k1 with
  | false =>
    rw [if_neg Bool.false_ne_true]
    exact k _ _ H3 s3 e13 rfl (.bl _)
  | true =>
    rw [if_pos rfl]
    refine ⟨F, O0, O1, s3, fun z _ H4 s4 e4 hc r4 => ?_⟩
    subst hc
    exact h2 rfl (O1 ++ O0) H4 y z Q s4.al ((r2.mono e3.msk).mono e4) r4 (s4.kt (e13.trans e4) k)
theorem ev_chain {op op' : CmpOp} {r r' : R2} {dc : PyData} {k1 k2 : Bool} (ho : OpR X (compareOp op) r) (ho' : OpR X (compareOp op') r') (ha : Ev X ρ a da) (hb : Ev X ρ b db) (hc : Ev X ρ c dc) (h1 : OpD r da db (Eq (.bool k1)))
    (h2 : k1 = true → OpD r' db dc (Eq (.bool k2))) (hm : lastMarks [op, op'] [b, c] = false := by with_unfolding_all rfl) : Ev X ρ (.Compare a [op, op'] [b, c] pos) (.bool (k1 && k2)) :=
  pe_imp (pe_chain ho ho' ha hb hc hm) (tChain_of h1 h2)
theorem et_chain {op op' : CmpOp} {r r' : R2} {dc : PyData} {k1 k2 : Bool} (ho : OpR X (compareOp op) r) (ho' : OpR X (compareOp op') r') (ha : Ev X ρ a da) (hb : Ev X ρ b db) (hc : Ev X ρ c dc) (h1 : OpD r da db (Eq (.bool k1)))
    (h2 : k1 = true → OpD r' db dc (Eq (.bool k2))) (hm : lastMarks [op, op'] [b, c] = false := by with_unfolding_all rfl) : EvT X ρ (.Compare a [op, op'] [b, c] pos) (k1 && k2) :=
  pt_imp (pt_chain ho ho' ha hb hc hm) fun σ H Q ⟨F, O0, O1, s, q⟩ => tChain_of h1 h2 σ H _ ⟨F, O0, O1, s, fun v d H' s' e' hd r => by
    subst hd; cases r
    exact ⟨_, rfl, q _ H' s' e' rfl⟩⟩
theorem ev_lele {i j l : Int} (ha : Ev X ρ a (.int i)) (hb : Ev X ρ b (.int j)) (hc : Ev X ρ c (.int l)) (hm : lastMarks [.LtE, .LtE] [b, c] = false := by with_unfolding_all rfl) : Ev X ρ (.Compare a [.LtE, .LtE] [b, c] pos) (.bool (decide (i ≤ j) && decide (j ≤ l))) :=
  ev_chain op_le op_le ha hb hc od_B0 (fun _ => od_B0) hm
theorem et_lele {i j l : Int} (ha : Ev X ρ a (.int i)) (hb : Ev X ρ b (.int j)) (hc : Ev X ρ c (.int l)) (hm : lastMarks [.LtE, .LtE] [b, c] = false := by with_unfolding_all rfl) : EvT X ρ (.Compare a [.LtE, .LtE] [b, c] pos) (decide (i ≤ j) && decide (j ≤ l)) :=
  et_chain op_le op_le ha hb hc od_B0 (fun _ => od_B0) hm
/-! and, or, not -/
section
variable {k k1 k2 : Bool} {rest : List Expr}
theorem ew_and1 (ha : EvT X ρ a k) : PW X (.BoolOp .And [a] pos) (tT ρ (Eq k)) := pw_and1 ha
theorem ew_or1 (ha : EvT X ρ a k) : PW X (.BoolOp .Or [a] pos) (tT ρ (Eq k)) := pw_or1 ha
theorem ew_and (ha : EvT X ρ a k1) (hb : k1 = true → PW X (.BoolOp .And (b :: rest) pos) (tT ρ (Eq k2))) : PW X (.BoolOp .And (a :: b :: rest) pos) (tT ρ (Eq (k1 && k2))) := by
  cases k1 with
  | true =>
    refine pw_imp (pw_and ha (hb rfl)) fun σ H Q ⟨F, O0, O1, s, q⟩ => ⟨F, O0, O1, s, fun b H' s' e' hd => ?_⟩
    subst hd
    rw [if_pos rfl]
    exact ⟨F, O0, O1, s', fun b H2 s2 e2 hd => q b H2 s2 (e'.trans e2) (by rw [← hd]; rfl)⟩
  | false =>
    refine ⟨fun wh pins s σ H Q I ⟨F, O0, O1, st, q⟩ => ?_⟩
    refine isTrue_and (thn (ha.run pins s σ H (fun b H' => b = false ∧ Q false H') I ⟨F, O0, O1, st, fun b H' s' e' hd => ⟨hd.symm, q false H' s' e' rfl⟩⟩) fun c s1 ⟨H1, I1, q1⟩ => ?_)
    obtain ⟨rfl, q1⟩ := q1
    exact ⟨H1, I1, q1⟩
theorem ew_or (ha : EvT X ρ a k1) (hb : k1 = false → PW X (.BoolOp .Or (b :: rest) pos) (tT ρ (Eq k2))) : PW X (.BoolOp .Or (a :: b :: rest) pos) (tT ρ (Eq (k1 || k2))) := by
  cases k1 with
  | false =>
    refine pw_imp (pw_or ha (hb rfl)) fun σ H Q ⟨F, O0, O1, s, q⟩ => ⟨F, O0, O1, s, fun b H' s' e' hd => ?_⟩
    subst hd
    rw [if_neg Bool.false_ne_true]
    exact ⟨F, O0, O1, s', fun b H2 s2 e2 hd => q b H2 s2 (e'.trans e2) (by rw [← hd]; rfl)⟩
  | true =>
    refine ⟨fun wh pins s σ H Q I ⟨F, O0, O1, st, q⟩ => ?_⟩
    refine isTrue_or (thn (ha.run pins s σ H (fun b H' => b = true ∧ Q true H') I ⟨F, O0, O1, st, fun b H' s' e' hd => ⟨hd.symm, q true H' s' e' rfl⟩⟩) fun c s1 ⟨H1, I1, q1⟩ => ?_)
    obtain ⟨rfl, q1⟩ := q1
    exact ⟨H1, I1, q1⟩
theorem et_not (ha : EvT X ρ a k) : EvT X ρ (.UnaryOp .Not a pos) (!k) := pt_imp (pt_not ha) fun σ H Q ⟨F, O0, O1, s, q⟩ => ⟨F, O0, O1, s, fun b H' s' e' hd => q (!b) H' s' e' (by rw [hd])⟩
theorem ev_one {op} (h : Ev X ρ a d) : Ev X ρ (.BoolOp op [a] pos) d := pe_one h
/-- the values of and, or: the first one decides -/
theorem ev_and (ha : Ev X ρ a (.bool k1)) (hb : k1 = true → Ev X ρ (.BoolOp .And (b :: rest) pos) (.bool k2)) : Ev X ρ (.BoolOp .And (a :: b :: rest) pos) (.bool (k1 && k2)) := by
  cases k1 with
  | true =>
    refine pe_imp (pe_and ha (hb rfl)) fun σ H Q ⟨F, O0, O1, s, q⟩ => ⟨F, O0, O1, s, fun v d H' s' e' hd r => ?_⟩
    subst hd; cases r
    refine ⟨true, rfl, ?_⟩
    rw [if_pos rfl]
    exact ⟨F, O0, O1, s', fun v d H2 s2 e2 hd r => q v d H2 s2 (e'.trans e2) (by rw [← hd]; rfl) r⟩
  | false =>
    refine ⟨fun pins s σ H Q I ⟨F, O0, O1, st, q⟩ => ?_⟩
    refine BoolOp_and (thn (ha.run pins s σ H (fun v H' => v = .bl false ∧ Q (.bl false) H') I ⟨F, O0, O1, st, fun v d H' s' e' hd r => by subst hd; cases r; exact ⟨rfl, q _ _ H' s' e' rfl (.bl _)⟩⟩) fun v s1 ⟨x, H1, I1, r1, q1⟩ => ?_)
    obtain ⟨rfl, q1⟩ := q1
    cases r1
    exact wpAny_truthy_bool ⟨.bl false, H1, I1, rfl, q1⟩
theorem ev_or (ha : Ev X ρ a (.bool k1)) (hb : k1 = false → Ev X ρ (.BoolOp .Or (b :: rest) pos) (.bool k2)) : Ev X ρ (.BoolOp .Or (a :: b :: rest) pos) (.bool (k1 || k2)) := by
  cases k1 with
  | false =>
    refine pe_imp (pe_or ha (hb rfl)) fun σ H Q ⟨F, O0, O1, s, q⟩ => ⟨F, O0, O1, s, fun v d H' s' e' hd r => ?_⟩
    subst hd; cases r
    refine ⟨false, rfl, ?_⟩
    rw [if_neg Bool.false_ne_true]
    exact ⟨F, O0, O1, s', fun v d H2 s2 e2 hd r => q v d H2 s2 (e'.trans e2) (by rw [← hd]; rfl) r⟩
  | true =>
    refine ⟨fun pins s σ H Q I ⟨F, O0, O1, st, q⟩ => ?_⟩
    refine BoolOp_or (thn (ha.run pins s σ H (fun v H' => v = .bl true ∧ Q (.bl true) H') I ⟨F, O0, O1, st, fun v d H' s' e' hd r => by subst hd; cases r; exact ⟨rfl, q _ _ H' s' e' rfl (.bl _)⟩⟩) fun v s1 ⟨x, H1, I1, r1, q1⟩ => ?_)
    obtain ⟨rfl, q1⟩ := q1
    cases r1
    exact wpAny_truthy_bool ⟨.bl true, H1, I1, rfl, q1⟩
theorem ev_not (ha : Ev X ρ a (.bool k)) : Ev X ρ (.UnaryOp .Not a pos) (.bool (!k)) := pe_imp (pe_not ha) fun σ H Q ⟨F, O0, O1, s, q⟩ => ⟨F, O0, O1, s, fun v d H' s' e' hd r => by
  subst hd; cases r
  exact ⟨k, rfl, q _ _ H' s' e' rfl (.bl _)⟩⟩
theorem ev_if {d' : PyData} (hc : EvT X ρ c k) (ha : k = true → Ev X ρ a d) (hb : k = false → Ev X ρ b d) : Ev X ρ (.IfExp c a b pos) d := by
  cases k with
  | true =>
    refine ⟨fun pins s σ H Q I ⟨F, O0, O1, st, q⟩ => ?_⟩
    refine wpAny_IfExp (thn (hc.run pins s σ H (fun b H' => b = true ∧ tP ρ (Eq d) σ H' Q) I ⟨F, O0, O1, st, fun b H' s' e' hd => ⟨hd.symm, F, O0, O1, s', fun v d H2 s2 e2 => q v d H2 s2 (e'.trans e2)⟩⟩) fun z s1 ⟨H1, I1, q1⟩ => ?_)
    obtain ⟨rfl, q1⟩ := q1
    exact (ha rfl).run pins s1 σ H1 Q I1 q1
  | false =>
    refine ⟨fun pins s σ H Q I ⟨F, O0, O1, st, q⟩ => ?_⟩
    refine wpAny_IfExp (thn (hc.run pins s σ H (fun b H' => b = false ∧ tP ρ (Eq d) σ H' Q) I ⟨F, O0, O1, st, fun b H' s' e' hd => ⟨hd.symm, F, O0, O1, s', fun v d H2 s2 e2 => q v d H2 s2 (e'.trans e2)⟩⟩) fun z s1 ⟨H1, I1, q1⟩ => ?_)
    obtain ⟨rfl, q1⟩ := q1
    exact (hb rfl).run pins s1 σ H1 Q I1 q1
end
/-! argument lists, displays -/
section
variable {ds : List PyData}
theorem ea_nil : EvA X ρ [] [] := pa_imp pa_nil fun σ H Q ⟨F, O0, O1, s, q⟩ => q [] [] H s (Ex.refl _) rfl .nil
theorem ean_cons {E : List PyData → Prop} (ha : EvN X ρ a A) (hr : EvAN X ρ es E) (hs : starEach (a :: es) X.env = (false, eval a X.env) :: starEach es X.env := by rfl) : EvAN X ρ (a :: es) (fun ds => ∃ d r, ds = d :: r ∧ A d ∧ E r) :=
  pa_imp (pa_cons ha hr hs) fun σ H Q ⟨F, O0, O1, s, q⟩ => ⟨F, O0, O1, s, fun v d H1 s1 e1 hd r1 => ⟨F, O0, O1, s1, fun vs ds H2 s2 e2 hds r2 =>
    q (v :: vs) (d :: ds) H2 s2 (e1.trans e2) ⟨d, ds, rfl, hd, hds⟩ (.cons (r1.mono e2) r2)⟩⟩
theorem ean_imp {E E' : List PyData → Prop} (h : EvAN X ρ es E) (k : ∀ ds, E ds → E' ds) : EvAN X ρ es E' := pa_imp h fun σ H Q ⟨F, O0, O1, s, q⟩ => ⟨F, O0, O1, s, fun v d H' s' e' hd r => q v d H' s' e' (k d hd) r⟩
theorem ea_cons (ha : Ev X ρ a d) (hr : EvA X ρ es ds) (hs : starEach (a :: es) X.env = (false, eval a X.env) :: starEach es X.env := by rfl) : EvA X ρ (a :: es) (d :: ds) :=
  ean_imp (ean_cons ha hr hs) fun z ⟨x, y, e, ex, ey⟩ => by subst ex; subst ey; exact e.symm
theorem evn_tup {E : List PyData → Prop} {x1} (h : EvAN X ρ es E) (hl : ∀ ds, E ds → ds.length ≤ big ∧ D (.tuple ds)) : EvN X ρ (.Tuple es x1 pos) D :=
  pe_imp (pe_tup h) fun σ H Q ⟨F, O0, O1, s, q⟩ => ⟨F, O0, O1, s, fun vs ds H1 s1 e1 hd r1 => ⟨by rw [r1.len]; exact le_line (hl ds hd).1, (s1.kt e1 q).tup s1.al (hl ds hd).2 (hl ds hd).1 r1⟩⟩
theorem ev_tup {x1} (h : EvA X ρ es ds) (hl : ds.length ≤ big := by exact Nat.le_of_ble_eq_true rfl) : Ev X ρ (.Tuple es x1 pos) (.tuple ds) := evn_tup h fun z e => by subst e; exact ⟨hl, rfl⟩
theorem ev_lst (h : EvA X ρ es ds) (hl : ds.length ≤ big := by exact Nat.le_of_ble_eq_true rfl) : Ev X ρ (.List es pos) (.list ds) :=
  pe_imp (pe_lst h) fun σ H Q ⟨F, O0, O1, s, q⟩ => ⟨F, O0, O1, s, fun vs ds H1 s1 e1 hd r1 => by
    subst hd
    exact ⟨by rw [r1.len]; exact le_line hl, (s1.kt e1 q).lst s1.al rfl hl r1⟩⟩
end
/-! subscripts -/
theorem atI_rp {H : Hp} {xs : List V} {ds : List PyData} {i : Int} (r : RpA H xs ds) (h : atI ds i = some d) : ∃ v, atI xs i = some v ∧ Rp H v d := by
  unfold atI at h ⊢
  rw [r.len]
  cases q : ixN ds.length i with
  | none => rw [q] at h; cases h
  | some j =>
    rw [q] at h
    obtain ⟨v, h1, h2⟩ := r.get (i := j) h
    exact ⟨v, h1, h2⟩
theorem ev_ix {ds : List PyData} {i : Int} (ha : Ev X ρ a (.tuple ds)) (hb : Ev X ρ b (.int i)) (h : atI ds i = some d) (hs : PlainIx b := by exact fun _ _ => rfl) : Ev X ρ (.Subscript a b pos) d :=
  pe_imp (pe_ix ix_tup ha hb hs) (tOp_of fun da db e1 e2 => by
    subst e1; subst e2
    intro O H x y Q al hx hy k
    cases hy
    cases hx with
    | tup h1 h2 h3 =>
      obtain ⟨v, q1, q2⟩ := atI_rp h3 h
      exact ⟨_, _, i, v, rfl, rfl, SqT.of (msk_some h1).2, q1, k.here rfl q2⟩)
theorem ev_ixL {ds : List PyData} {i : Int} (ha : Ev X ρ a (.list ds)) (hb : Ev X ρ b (.int i)) (h : atI ds i = some d) (hs : PlainIx b := by exact fun _ _ => rfl) : Ev X ρ (.Subscript a b pos) d :=
  pe_imp (pe_ix ix_list ha hb hs) (tOp_of fun da db e1 e2 => by
    subst e1; subst e2
    intro O H x y Q al hx hy k
    cases hy
    cases hx with
    | lst h1 h2 h3 =>
      obtain ⟨v, q1, q2⟩ := atI_rp h3 h
      exact ⟨_, _, i, v, rfl, rfl, SqL.of (msk_some h1).2, q1, k.here rfl q2⟩)
/-! calls of builtins -/
section
variable {ds : List PyData} {bid : String} {r : List V → Hp → VK → Prop} {T : String}
theorem evn_callB {E : List PyData → Prop} (hc : CallR X (.builtin bid) r) (hg : Gl X x) (hm : X.mg x = none) (hv : bootBuiltins x = some (.builtin bid)) (ha : EvAN X ρ (a :: es) E) (hr : ∀ ds, E ds → CD r ds D) (hn : x ≠ "__name__" := by decide) (hdb : (x == ("__debug__" : Str)) = false := by decide)
    (he : starEach (a :: es) X.env = (false, eval a X.env) :: starEach es X.env := by rfl) (hpl : (backTo pos (starEach es X.env)).any (·.1) = false := by rfl) : EvN X ρ (.Call (.Name x p) (a :: es) [] pos) D :=
  pe_imp (pe_callB hc hg hm hv ha hn hdb he hpl) fun σ H Q ⟨F, O0, O1, s, q⟩ => ⟨F, O0, O1, s, fun vs ds H1 s1 e1 hd r1 => hr ds hd _ H1 vs Q s1.al r1 (s1.kt e1 q)⟩
theorem ev_callB (hc : CallR X (.builtin bid) r) (hg : Gl X x) (hm : X.mg x = none) (hv : bootBuiltins x = some (.builtin bid)) (ha : EvA X ρ (a :: es) ds) (hr : CD r ds (Eq d)) (hn : x ≠ "__name__" := by decide) (hdb : (x == ("__debug__" : Str)) = false := by decide)
    (he : starEach (a :: es) X.env = (false, eval a X.env) :: starEach es X.env := by rfl) (hpl : (backTo pos (starEach es X.env)).any (·.1) = false := by rfl) : Ev X ρ (.Call (.Name x p) (a :: es) [] pos) d :=
  evn_callB hc hg hm hv ha (fun _ e => by subst e; exact hr) hn hdb he hpl
theorem evn_callTy {E : List PyData → Prop} (hc : CallR X (.type T) r) (hg : Gl X x) (hm : X.mg x = none) (hv : bootBuiltins x = some (.type T)) (ha : EvAN X ρ (a :: es) E) (hr : ∀ ds, E ds → CD r ds D) (hn : x ≠ "__name__" := by decide) (hdb : (x == ("__debug__" : Str)) = false := by decide)
    (he : starEach (a :: es) X.env = (false, eval a X.env) :: starEach es X.env := by rfl) (hpl : (backTo pos (starEach es X.env)).any (·.1) = false := by rfl) : EvN X ρ (.Call (.Name x p) (a :: es) [] pos) D :=
  pe_imp (pe_callTy hc hg hm hv ha hn hdb he hpl) fun σ H Q ⟨F, O0, O1, s, q⟩ => ⟨F, O0, O1, s, fun vs ds H1 s1 e1 hd r1 => hr ds hd _ H1 vs Q s1.al r1 (s1.kt e1 q)⟩
theorem ev_callTy (hc : CallR X (.type T) r) (hg : Gl X x) (hm : X.mg x = none) (hv : bootBuiltins x = some (.type T)) (ha : EvA X ρ (a :: es) ds) (hr : CD r ds (Eq d)) (hn : x ≠ "__name__" := by decide) (hdb : (x == ("__debug__" : Str)) = false := by decide)
    (he : starEach (a :: es) X.env = (false, eval a X.env) :: starEach es X.env := by rfl) (hpl : (backTo pos (starEach es X.env)).any (·.1) = false := by rfl) : Ev X ρ (.Call (.Name x p) (a :: es) [] pos) d :=
  evn_callTy hc hg hm hv ha (fun _ e => by subst e; exact hr) hn hdb he hpl
theorem rpA1 {H : Hp} {xs : List V} (r : RpA H xs [d]) : ∃ v, xs = [v] ∧ Rp H v d := by
  cases r with
  | cons h1 h2 => cases h2; exact ⟨_, rfl, h1⟩
theorem rpA2 {H : Hp} {xs : List V} (r : RpA H xs [d, da]) : ∃ v w, xs = [v, w] ∧ Rp H v d ∧ Rp H w da := by
  cases r with
  | cons h1 h2 =>
    obtain ⟨w, rfl, h3⟩ := rpA1 h2
    exact ⟨_, _, rfl, h1, h3⟩
/-- len of a list, a tuple -/
theorem cd_len {K : PySem.W.Frag} (h : d = .list ds ∨ d = .tuple ds) : CD (fun xs H Q => ∃ p ys, xs = [.ref p] ∧ (SqL K H p ys ∨ SqT K H p ys) ∧ Q (.int ys.length) H) [d] (Eq (.int ds.length)) := fun O H xs Q al r k => by
  obtain ⟨v, rfl, r1⟩ := rpA1 r
  rcases h with rfl | rfl
  · cases r1 with
    | lst h1 h2 h3 => exact ⟨_, _, rfl, .inl (SqL.of (msk_some h1).2), by rw [h3.len]; exact k.here rfl (.int _)⟩
  · cases r1 with
    | tup h1 h2 h3 => exact ⟨_, _, rfl, .inr (SqT.of (msk_some h1).2), by rw [h3.len]; exact k.here rfl (.int _)⟩
theorem ev_lenT (hg : Gl X "len") (hm : X.mg "len" = none) (ha : Ev X ρ a (.tuple ds)) (hs : starEach [a] X.env = (false, eval a X.env) :: starEach [] X.env := by rfl) : Ev X ρ (.Call (.Name "len" p) [a] [] pos) (.int ds.length) :=
  ev_callB call_len_seq hg hm PySem.boot_len (ea_cons ha ea_nil hs) (cd_len (.inr rfl)) (by decide) (by decide) hs rfl
theorem ev_lenL (hg : Gl X "len") (hm : X.mg "len" = none) (ha : Ev X ρ a (.list ds)) (hs : starEach [a] X.env = (false, eval a X.env) :: starEach [] X.env := by rfl) : Ev X ρ (.Call (.Name "len" p) [a] [] pos) (.int ds.length) :=
  ev_callB call_len_seq hg hm PySem.boot_len (ea_cons ha ea_nil hs) (cd_len (.inl rfl)) (by decide) (by decide) hs rfl
/-- tuple(list) -/
theorem cd_tuple {K : PySem.W.Frag} : CD (fun xs H Q => ∃ p ys, xs = [.ref p] ∧ ((SqL K H p ys ∧ ∀ l, H l = none → Q (.ref l) (upd H l (.tup ys))) ∨ (SqT K H p ys ∧ Q (.ref p) H))) [.list ds] (Eq (.tuple ds)) := fun O H xs Q al r k => by
  obtain ⟨v, rfl, r1⟩ := rpA1 r
  cases r1 with
  | lst h1 h2 h3 => exact ⟨_, _, rfl, .inl ⟨SqL.of (msk_some h1).2, k.tup al rfl h2 h3⟩⟩
theorem ev_tupleL (hg : Gl X "tuple") (hm : X.mg "tuple" = none) (ha : Ev X ρ a (.list ds)) (hs : starEach [a] X.env = (false, eval a X.env) :: starEach [] X.env := by rfl) : Ev X ρ (.Call (.Name "tuple" p) [a] [] pos) (.tuple ds) :=
  ev_callTy call_tuple_of hg hm (by decide +kernel) (ea_cons ha ea_nil hs) cd_tuple (by decide) (by decide) hs rfl
/-- sum of ints -/
theorem cd_sum {K : PySem.W.Frag} {ns : List Int} : CD (rSum K) [.list (ns.map PyData.int)] (Eq (.int ns.sum)) := fun O H xs Q al r k => by
  obtain ⟨v, rfl, r1⟩ := rpA1 r
  cases r1 with
  | lst h1 h2 h3 => exact ⟨_, ns, rfl, SqL.of (by rw [← h3.ints]; exact (msk_some h1).2), k.here rfl (.int _)⟩
theorem ev_sum {ns : List Int} (hc : X.calm = true) (hg : Gl X "sum") (hm : X.mg "sum" = none) (ha : Ev X ρ a (.list (ns.map PyData.int))) (hs : starEach [a] X.env = (false, eval a X.env) :: starEach [] X.env := by rfl) : Ev X ρ (.Call (.Name "sum" p) [a] [] pos) (.int ns.sum) :=
  ev_callB (cr_sum hc) hg hm (by decide +kernel) (ea_cons ha ea_nil hs) cd_sum (by decide) (by decide) hs rfl
theorem cd_all {K : PySem.W.Frag} {ns : List Bool} : CD (rAll K) [.list (ns.map PyData.bool)] (Eq (.bool (ns.all id))) := fun O H xs Q al r k => by
  obtain ⟨v, rfl, r1⟩ := rpA1 r
  cases r1 with
  | lst h1 h2 h3 => exact ⟨_, ns, rfl, SqL.of (by rw [← h3.bools]; exact (msk_some h1).2), k.here rfl (.bl _)⟩
theorem cd_any {K : PySem.W.Frag} {ns : List Bool} : CD (rAny K) [.list (ns.map PyData.bool)] (Eq (.bool (ns.any id))) := fun O H xs Q al r k => by
  obtain ⟨v, rfl, r1⟩ := rpA1 r
  cases r1 with
  | lst h1 h2 h3 => exact ⟨_, ns, rfl, SqL.of (by rw [← h3.bools]; exact (msk_some h1).2), k.here rfl (.bl _)⟩
theorem ev_all {ns : List Bool} (hc : X.calm = true) (hg : Gl X "all") (hm : X.mg "all" = none) (ha : Ev X ρ a (.list (ns.map PyData.bool))) (hs : starEach [a] X.env = (false, eval a X.env) :: starEach [] X.env := by rfl) : Ev X ρ (.Call (.Name "all" p) [a] [] pos) (.bool (ns.all id)) :=
  ev_callB (cr_all hc) hg hm (by decide +kernel) (ea_cons ha ea_nil hs) cd_all (by decide) (by decide) hs rfl
theorem ev_any {ns : List Bool} (hc : X.calm = true) (hg : Gl X "any") (hm : X.mg "any" = none) (ha : Ev X ρ a (.list (ns.map PyData.bool))) (hs : starEach [a] X.env = (false, eval a X.env) :: starEach [] X.env := by rfl) : Ev X ρ (.Call (.Name "any" p) [a] [] pos) (.bool (ns.any id)) :=
  ev_callB (cr_any hc) hg hm (by decide +kernel) (ea_cons ha ea_nil hs) cd_any (by decide) (by decide) hs rfl
/-- max, min of ints -/
theorem cd_max {K : PySem.W.Frag} {ns : List Int} {m : Int} (h1 : m ∈ ns) (h2 : ∀ y ∈ ns, y ≤ m) : CD (rMax K) [.list (ns.map PyData.int)] (Eq (.int m)) := fun O H xs Q al r k => by
  obtain ⟨v, rfl, r1⟩ := rpA1 r
  cases r1 with
  | lst q1 q2 q3 => exact ⟨_, ns, rfl, SqL.of (by rw [← q3.ints]; exact (msk_some q1).2), List.length_pos_of_mem h1, fun m' a1 a2 => by
      have e : m = m' := Int.le_antisymm (a2 m h1) (h2 m' a1)
      rw [← e]
      exact k.here rfl (.int _)⟩
theorem cd_min {K : PySem.W.Frag} {ns : List Int} {m : Int} (h1 : m ∈ ns) (h2 : ∀ y ∈ ns, m ≤ y) : CD (rMin K) [.list (ns.map PyData.int)] (Eq (.int m)) := fun O H xs Q al r k => by
  obtain ⟨v, rfl, r1⟩ := rpA1 r
  cases r1 with
  | lst q1 q2 q3 => exact ⟨_, ns, rfl, SqL.of (by rw [← q3.ints]; exact (msk_some q1).2), List.length_pos_of_mem h1, fun m' a1 a2 => by
      have e : m = m' := Int.le_antisymm (h2 m' a1) (a2 m h1)
      rw [← e]
      exact k.here rfl (.int _)⟩
end
/-! tuples and lists joined, cut -/
theorem od_catT {K : PySem.W.Frag} {xs ys : List PyData} (hl : xs.length + ys.length ≤ big) : OpD (rCatA K) (.tuple xs) (.tuple ys) (Eq (.tuple (xs ++ ys))) := fun O H x y Q al hx hy k => by
  cases hx with
  | tup h1 h2 h3 =>
    cases hy with
    | tup g1 g2 g3 =>
      refine ⟨_, _, _, _, rfl, rfl, SqT.of (msk_some h1).2, SqT.of (msk_some g1).2, by rw [h3.len, g3.len]; exact le_line hl, fun e => ?_, fun _ e => ?_, fun _ _ => k.tup al rfl (by rw [List.length_append]; exact hl) (h3.append g3)⟩
      · subst e; cases h3; exact k.here rfl (.tup g1 g2 g3)
      · subst e; cases g3; rw [List.append_nil] at k; exact k.here rfl (.tup h1 h2 h3)
theorem ev_catT {xs ys : List PyData} (ha : Ev X ρ a (.tuple xs)) (hb : Ev X ρ b (.tuple ys)) (hl : xs.length + ys.length ≤ big) : Ev X ρ (.BinOp a .Add b pos) (.tuple (xs ++ ys)) := ev_bin op_catA ha hb (od_catT hl)
theorem od_catL {xs ys : List PyData} (hl : xs.length + ys.length ≤ big) : OpD rCat (.list xs) (.list ys) (Eq (.list (xs ++ ys))) := fun O H x y Q al hx hy k => by
  cases hx with
  | lst h1 h2 h3 =>
    cases hy with
    | lst g1 g2 g3 => exact ⟨_, _, _, _, rfl, rfl, (msk_some h1).2, (msk_some g1).2, by rw [h3.len, g3.len]; exact le_line hl, k.lst al rfl (by rw [List.length_append]; exact hl) (h3.append g3)⟩
theorem ev_catL {xs ys : List PyData} (ha : Ev X ρ a (.list xs)) (hb : Ev X ρ b (.list ys)) (hl : xs.length + ys.length ≤ big) : Ev X ρ (.BinOp a .Add b pos) (.list (xs ++ ys)) := ev_bin op_cat ha hb (od_catL hl)
/-- slices -/
def cutD (xs : List PyData) (lo hi : Option Int) : List PyData := (xs.drop (HT.sIx xs.length 0 lo)).take (HT.sIx xs.length xs.length hi - HT.sIx xs.length 0 lo)
theorem cutD_len (xs : List PyData) (lo hi : Option Int) : (cutD xs lo hi).length ≤ xs.length := by
  unfold cutD
  rw [List.length_take, List.length_drop]
  omega
theorem RpA.cut {H : Hp} {vs : List V} {ds : List PyData} (r : RpA H vs ds) (lo hi : Option Int) : RpA H (cutV vs lo hi) (cutD ds lo hi) := by
  unfold cutV cutD
  rw [r.len]
  exact (r.drop _).take _
def tO (ρ : List SD) (o : Option Int) : TO := fun σ H Q => ∃ F O0 O1, SA F O0 O1 ρ σ H ∧ ∀ H', SA F O0 O1 ρ σ H' → Ex (msk (O1 ++ O0) H) (msk (O1 ++ O0) H') → Q o H'
theorem po_imp {oe : Option Expr} {t t' : TO} (h : PO X oe t) (k : ∀ σ H Q, t' σ H Q → t σ H Q) : PO X oe t' := by
  cases oe with
  | none => exact ⟨fun pins s σ H Q I q => h.run pins s σ H Q I (k σ H Q q)⟩
  | some e => exact ⟨fun pins s σ H Q I q => h.run pins s σ H Q I (k σ H Q q)⟩
theorem eo_none : PO X none (tO ρ none) := po_imp po_none fun σ H Q ⟨F, O0, O1, s, q⟩ => q H s (Ex.refl _)
theorem eo_some {i : Int} (h : Ev X ρ a (.int i)) : PO X (some a) (tO ρ (some i)) := po_imp (po_some h) fun σ H Q ⟨F, O0, O1, s, q⟩ => ⟨F, O0, O1, s, fun v d H' s' e' hd r => by
  subst hd; cases r
  exact ⟨i, rfl, q H' s' e'⟩⟩
theorem tSl_of {r : V → Option Int → Option Int → Hp → VK → Prop} {lo hi : Option Int} (hr : ∀ O H x Q, Al O H → Rp (msk O H) x da → Kt O H D Q → r x lo hi H Q) (σ : Sg) (H : Hp) (Q : VK) (h : tP ρ D σ H Q) : tSl r (tP ρ (Eq da)) (tO ρ lo) (tO ρ hi) σ H Q := by
  obtain ⟨F, O0, O1, s, k⟩ := h
  refine ⟨F, O0, O1, s, fun x _ H1 s1 e1 hd r1 => ⟨F, O0, O1, s1, fun H2 s2 e2 => ⟨F, O0, O1, s2, fun H3 s3 e3 => ?_⟩⟩⟩
  subst hd
  exact hr (O1 ++ O0) H3 x Q s3.al ((r1.mono e2).mono e3) (s3.kt ((e1.trans e2).trans e3) k)
theorem sIx_le (n def_ : Nat) (o : Option Int) (h : def_ ≤ n) : HT.sIx n def_ o ≤ n := by
  unfold HT.sIx
  cases o with
  | none => exact h
  | some i => dsimp only; split <;> omega
theorem ev_slT {xs : List PyData} {lo hi : Option Expr} {l u : Option Int} {p2 : Pos} (ha : Ev X ρ a (.tuple xs)) (hl : PO X lo (tO ρ l)) (hu : PO X hi (tO ρ u)) : Ev X ρ (.Subscript a (.Slice lo hi none p2) pos) (.tuple (cutD xs l u)) :=
  pe_imp (pe_slice sl_tupA ha hl hu) (tSl_of fun O H x Q al hx k => by
    cases hx with
    | tup h1 h2 h3 =>
      refine ⟨_, _, rfl, SqT.of (msk_some h1).2, fun e => ?_, fun _ => k.tup al rfl (Nat.le_trans (cutD_len _ _ _) h2) (h3.cut l u)⟩
      rw [h3.len] at e
      have e2 : cutD xs l u = xs := by
        unfold cutD
        rw [e.1, e.2]
        simp
      rw [e2] at k
      exact k.here rfl (.tup h1 h2 h3))
theorem ev_slL {xs : List PyData} {lo hi : Option Expr} {l u : Option Int} {p2 : Pos} (ha : Ev X ρ a (.list xs)) (hl : PO X lo (tO ρ l)) (hu : PO X hi (tO ρ u)) : Ev X ρ (.Subscript a (.Slice lo hi none p2) pos) (.list (cutD xs l u)) :=
  pe_imp (pe_slice sl_list ha hl hu) (tSl_of fun O H x Q al hx k => by
    cases hx with
    | lst h1 h2 h3 => exact ⟨_, _, rfl, SqL.of (msk_some h1).2, k.lst al rfl (Nat.le_trans (cutD_len _ _ _) h2) (h3.cut l u)⟩)
end
end
end PL

namespace PL
open PySem PySem.Spec PyProof.Rows L2

/-! ## what is walked -/
theorem Ex.into {Fz H2 : Hp} {O : List Addr} (e : Ex Fz H2) (n : ∀ a ∈ O, Fz a = none) : Ex Fz (PL.msk O H2) := fun a o h => by
  rw [msk_out fun z => by rw [n a z] at h; cases h]
  exact e a o h
def Wk (Fz : Hp) (J : It) (ds : List PyData) : Prop := ∀ i H2, Ex Fz H2 →
  (∀ d, ds[i]? = some d → J.go i H2 ∧ ∀ x H3, J.yld i H2 x H3 → Ex H2 H3 ∧ ∀ O, Al O H2 → (∀ a ∈ O, Fz a = none) → Rp (msk O H3) x d) ∧ (ds.length ≤ i → J.stop i H2)
def tIN (ρ : List SD) (E : List PyData → Prop) : TI := fun σ H R => ∃ F O0 O1, SA F O0 O1 ρ σ H ∧
  ∀ ds J H', SA F O0 O1 ρ σ H' → Ex (msk (O1 ++ O0) H) (msk (O1 ++ O0) H') → E ds → ds.length ≤ big → Wk (msk (O1 ++ O0) H') J ds → R J H'
abbrev EvI (X : Cx) (ρ : List SD) (tg e : Expr) (ds : List PyData) : Prop := PI X tg e (tIN ρ (Eq ds))
abbrev EvIN (X : Cx) (ρ : List SD) (tg e : Expr) (E : List PyData → Prop) : Prop := PI X tg e (tIN ρ E)
section
variable {K : PySem.W.Frag} {Fz : Hp} {a b : Addr} {xs ys : List V} {ds es : List PyData}
theorem wk_list (h : Fz a = some (.lst xs)) (r : RpA Fz xs ds) : Wk Fz (Itl K a) ds := fun i H2 e => by
  have h2 : H2 a = some (.lst xs) := e _ _ h
  refine ⟨fun d hd => ?_, fun hl => ⟨xs, SqL.of h2, by rw [r.len]; exact hl⟩⟩
  obtain ⟨v, hv, rv⟩ := r.get hd
  refine ⟨⟨xs, v, SqL.of h2, hv⟩, fun x H3 y => ?_⟩
  obtain ⟨rfl, y⟩ := y
  have e1 := y xs (SqL.of h2)
  rw [hv] at e1
  cases e1
  exact ⟨Ex.refl _, fun O al n => rv.mono (e.into n)⟩
theorem wk_tup (h : Fz a = some (.tup xs)) (r : RpA Fz xs ds) : Wk Fz (Itt K a) ds := fun i H2 e => by
  have h2 : H2 a = some (.tup xs) := e _ _ h
  refine ⟨fun d hd => ?_, fun hl => ⟨xs, SqT.of h2, by rw [r.len]; exact hl⟩⟩
  obtain ⟨v, hv, rv⟩ := r.get hd
  refine ⟨⟨xs, v, SqT.of h2, hv⟩, fun x H3 y => ?_⟩
  obtain ⟨rfl, y⟩ := y
  have e1 := y xs (SqT.of h2)
  rw [hv] at e1
  cases e1
  exact ⟨Ex.refl _, fun O al n => rv.mono (e.into n)⟩
def rangeD (lo : Int) (n : Nat) : List Int := (List.range n).map fun (k : Nat) => lo + (k : Int)
theorem rangeD_len (lo : Int) (n : Nat) : (rangeD lo n).length = n := by simp [rangeD]
theorem wk_range (lo : Int) (n : Nat) : Wk Fz (Itr lo n) ((rangeD lo n).map PyData.int) := fun i H2 e => by
  refine ⟨fun d hd => ?_, fun hl => by
    rw [List.length_map, rangeD_len] at hl
    exact hl⟩
  have hi : i < n := by
    have := (List.getElem?_eq_some_iff.mp hd).1
    rw [List.length_map, rangeD_len] at this
    exact this
  refine ⟨hi, fun x H3 y => ?_⟩
  obtain ⟨rfl, rfl⟩ := y
  rw [rangeD, List.getElem?_map, List.getElem?_map, List.getElem?_range hi] at hd
  cases hd
  exact ⟨Ex.refl _, fun O al n => .int _⟩
/-- the pairs of enumerate -/
def enumD (ds : List PyData) : List PyData := ds.zipIdx.map fun p => .tuple [.int (p.2 : Nat), p.1]
theorem enumD_len (ds : List PyData) : (enumD ds).length = ds.length := by simp [enumD]
theorem enumD_get {i : Nat} {d : PyData} (h : (enumD ds)[i]? = some d) : ∃ d', ds[i]? = some d' ∧ d = .tuple [.int (i : Nat), d'] := by
  rw [enumD, List.getElem?_map, List.getElem?_zipIdx] at h
  cases q : ds[i]? with
  | none => rw [q] at h; cases h
  | some z =>
    rw [q] at h
    refine ⟨z, rfl, ?_⟩
    have h2 := Option.some.inj h
    rw [← h2]
    simp
theorem rp_new2 {O : List Addr} {H2 : Hp} {T : Addr} {x y : V} {d e : PyData} (hT : H2 T = none) (al : Al O H2) (ex : Ex Fz H2) (n : ∀ a ∈ O, Fz a = none) (r1 : Rp Fz x d) (r2 : Rp Fz y e) :
    Rp (msk O (upd H2 T (.tup [x, y]))) (.ref T) (.tuple [d, e]) := by
  have i : Ex Fz (msk O (upd H2 T (.tup [x, y]))) := (ex.trans (Ex.new hT)).into n
  exact .tup (msk_upd (al.out hT)) (show 2 ≤ 4096 by decide) (.cons (r1.mono i) (.cons (r2.mono i) .nil))
theorem wk_enum (h : Fz a = some (.lst xs)) (r : RpA Fz xs ds) : Wk Fz (Ite K a) (enumD ds) := fun i H2 e => by
  have h2 : H2 a = some (.lst xs) := e _ _ h
  refine ⟨fun d hd => ?_, fun hl => ⟨xs, SqL.of h2, by rw [r.len, ← enumD_len]; exact hl⟩⟩
  obtain ⟨d', hd', rfl⟩ := enumD_get hd
  obtain ⟨v, hv, rv⟩ := r.get hd'
  refine ⟨⟨xs, v, SqL.of h2, hv⟩, fun x H3 y => ?_⟩
  obtain ⟨T, x', rfl, hT, rfl, y⟩ := y
  have e1 := y xs (SqL.of h2)
  rw [hv] at e1
  cases e1
  exact ⟨Ex.new hT, fun O al n => rp_new2 hT al e n (.int _) rv⟩
def zipD (ds es : List PyData) : List PyData := List.zipWith (fun d e => .tuple [d, e]) ds es
theorem zipD_len (ds es : List PyData) : (zipD ds es).length = min ds.length es.length := by simp [zipD]
theorem zipD_get {i : Nat} {d : PyData} (h : (zipD ds es)[i]? = some d) : ∃ d' e', ds[i]? = some d' ∧ es[i]? = some e' ∧ d = .tuple [d', e'] := by
  rw [zipD, List.getElem?_zipWith] at h
  cases q : ds[i]? with
  | none => rw [q] at h; cases h
  | some z =>
    cases q' : es[i]? with
    | none => rw [q, q'] at h; cases h
    | some z' =>
      rw [q, q'] at h
      exact ⟨z, z', rfl, rfl, (Option.some.inj h).symm⟩
theorem wk_zipL (h : Fz a = some (.lst xs)) (r : RpA Fz xs ds) (h' : Fz b = some (.lst ys)) (r' : RpA Fz ys es) : Wk Fz (Itz K a b) (zipD ds es) := fun i H2 e => by
  have h2 : H2 a = some (.lst xs) := e _ _ h
  have h3 : H2 b = some (.lst ys) := e _ _ h'
  refine ⟨fun d hd => ?_, fun hl => ⟨xs, ys, SqL.of h2, SqL.of h3, by rw [r.len, r'.len]; rw [zipD_len] at hl; omega⟩⟩
  obtain ⟨d', e', hd', he', rfl⟩ := zipD_get hd
  obtain ⟨v, hv, rv⟩ := r.get hd'
  obtain ⟨u, hu, ru⟩ := r'.get he'
  refine ⟨⟨xs, ys, v, u, SqL.of h2, SqL.of h3, hv, hu⟩, fun x H3 y => ?_⟩
  obtain ⟨T, x', y', rfl, hT, rfl, y1, y2⟩ := y
  have e1 := y1 xs (SqL.of h2)
  have e2 := y2 ys (SqL.of h3)
  rw [hv] at e1
  rw [hu] at e2
  cases e1; cases e2
  exact ⟨Ex.new hT, fun O al n => rp_new2 hT al e n rv ru⟩
theorem wk_zipT (h : Fz a = some (.tup xs)) (r : RpA Fz xs ds) (h' : Fz b = some (.tup ys)) (r' : RpA Fz ys es) : Wk Fz (RZ.ItzT K a b) (zipD ds es) := fun i H2 e => by
  have h2 : H2 a = some (.tup xs) := e _ _ h
  have h3 : H2 b = some (.tup ys) := e _ _ h'
  refine ⟨fun d hd => ?_, fun hl => ⟨xs, ys, SqT.of h2, SqT.of h3, by rw [r.len, r'.len]; rw [zipD_len] at hl; omega⟩⟩
  obtain ⟨d', e', hd', he', rfl⟩ := zipD_get hd
  obtain ⟨v, hv, rv⟩ := r.get hd'
  obtain ⟨u, hu, ru⟩ := r'.get he'
  refine ⟨⟨xs, ys, v, u, SqT.of h2, SqT.of h3, hv, hu⟩, fun x H3 y => ?_⟩
  obtain ⟨T, x', y', rfl, hT, rfl, y1, y2⟩ := y
  have e1 := y1 xs (SqT.of h2)
  have e2 := y2 ys (SqT.of h3)
  rw [hv] at e1
  rw [hu] at e2
  cases e1; cases e2
  exact ⟨Ex.new hT, fun O al n => rp_new2 hT al e n rv ru⟩
end
section
variable {X : Cx} {ρ : List SD} {tg e e2 : Expr} {ds es : List PyData} {p pos : Pos}
theorem ei_list (h : Ev X ρ e (.list ds)) : EvI X ρ tg e ds := pi_imp (pi_list h) fun σ H R ⟨F, O0, O1, s, k⟩ => ⟨F, O0, O1, s, fun v d H1 s1 e1 hd r => by
  subst hd
  cases r with
  | lst h1 h2 h3 => exact ⟨_, rfl, ⟨_, SqL.of (msk_some h1).2⟩, k _ _ H1 s1 e1 rfl h2 (wk_list h1 h3)⟩⟩
theorem ei_tup (h : Ev X ρ e (.tuple ds)) : EvI X ρ tg e ds := pi_imp (pi_tup h) fun σ H R ⟨F, O0, O1, s, k⟩ => ⟨F, O0, O1, s, fun v d H1 s1 e1 hd r => by
  subst hd
  cases r with
  | tup h1 h2 h3 => exact ⟨_, rfl, ⟨_, SqT.of (msk_some h1).2⟩, k _ _ H1 s1 e1 rfl h2 (wk_tup h1 h3)⟩⟩
theorem ein_range1 {E : PyData → Prop} {E' : List PyData → Prop} (hg : Gl X "range") (hm : X.mg "range" = none) (ha : EvN X ρ e E) (hE : ∀ d, E d → ∃ n : Int, d = .int n ∧ n ≤ 4096 ∧ -4096 ≤ n ∧ E' ((rangeD 0 n.toNat).map PyData.int)) (hs : starEach [e] X.env = [(false, eval e X.env)] := by rfl) :
    EvIN X ρ tg (.Call (.Name "range" p) [e] [] pos) E' :=
  pi_imp (pi_range1 hg hm (ean_cons ha ea_nil hs) hs) fun σ H R ⟨F, O0, O1, s, k⟩ => ⟨F, O0, O1, s, fun vs ds H1 s1 e1 hd r => by
    obtain ⟨d, r', rfl, he, rfl⟩ := hd
    obtain ⟨n, rfl, h1, h2, h3⟩ := hE d he
    obtain ⟨v, rfl, r1⟩ := rpA1 r
    cases r1
    exact ⟨n, rfl, by omega, by omega, k _ _ H1 s1 e1 h3 (by rw [List.length_map, rangeD_len]; show n.toNat ≤ 4096; omega) (wk_range 0 n.toNat)⟩⟩
theorem ei_range1 {n : Int} (hg : Gl X "range") (hm : X.mg "range" = none) (ha : Ev X ρ e (.int n)) (h1 : n ≤ 4096 := by omega) (h2 : -4096 ≤ n := by omega) (hs : starEach [e] X.env = [(false, eval e X.env)] := by rfl) :
    EvI X ρ tg (.Call (.Name "range" p) [e] [] pos) ((rangeD 0 n.toNat).map PyData.int) :=
  ein_range1 hg hm ha (fun d hd => ⟨n, hd.symm, h1, h2, rfl⟩) hs
theorem ei_range2 {lo hi : Int} (hg : Gl X "range") (hm : X.mg "range" = none) (ha : Ev X ρ e (.int lo)) (hb : Ev X ρ e2 (.int hi)) (h1 : hi - lo ≤ 4096 := by omega) (h2 : -4096 ≤ lo ∧ lo ≤ 4096 ∧ -4096 ≤ hi ∧ hi ≤ 4096 := by omega)
    (hs : starEach [e, e2] X.env = [(false, eval e X.env), (false, eval e2 X.env)] := by rfl) (hs2 : starEach [e2] X.env = [(false, eval e2 X.env)] := by rfl) :
    EvI X ρ tg (.Call (.Name "range" p) [e, e2] [] pos) ((rangeD lo (hi - lo).toNat).map PyData.int) :=
  pi_imp (pi_range2 hg hm (ea_cons ha (ea_cons hb ea_nil hs2) (by rw [hs, hs2])) hs hs2) fun σ H R ⟨F, O0, O1, s, k⟩ => ⟨F, O0, O1, s, fun vs ds H1 s1 e1 hd r => by
    subst hd
    obtain ⟨v, w, rfl, r1, r2⟩ := rpA2 r
    cases r1; cases r2
    exact ⟨lo, hi, rfl, ⟨by omega, by omega, by omega, by omega⟩, k _ _ H1 s1 e1 rfl (by rw [List.length_map, rangeD_len]; show (hi - lo).toNat ≤ 4096; omega) (wk_range lo _)⟩⟩
theorem ei_enumL {elts : List Expr} {kk : Nat} {tpos : Pos} (hg : Gl X "enumerate") (hm : X.mg "enumerate" = none) (ha : Ev X ρ e (.list ds)) (hs : starEach [e] X.env = [(false, eval e X.env)] := by rfl) :
    EvI X ρ (.Tuple elts kk tpos) (.Call (.Name "enumerate" p) [e] [] pos) (enumD ds) :=
  pi_imp (pi_enum hg hm (ea_cons ha ea_nil hs) hs) fun σ H R ⟨F, O0, O1, s, k⟩ => ⟨F, O0, O1, s, fun vs es H1 s1 e1 hd r => by
    subst hd
    obtain ⟨v, rfl, r1⟩ := rpA1 r
    cases r1 with
    | lst h1 h2 h3 => exact ⟨_, _, rfl, SqL.of (msk_some h1).2, k _ _ H1 s1 e1 rfl (by rw [enumD_len]; exact h2) (wk_enum h1 h3)⟩⟩
theorem ei_zipL {elts : List Expr} {kk : Nat} {tpos : Pos} (hg : Gl X "zip") (hm : X.mg "zip" = none) (ha : Ev X ρ e (.list ds)) (hb : Ev X ρ e2 (.list es))
    (hs : starEach [e, e2] X.env = (false, eval e X.env) :: starEach [e2] X.env := by rfl) (hs2 : starEach [e2] X.env = [(false, eval e2 X.env)] := by rfl) (hpl : (backTo pos (starEach [e2] X.env)).any (·.1) = false := by rfl) :
    EvI X ρ (.Tuple elts kk tpos) (.Call (.Name "zip" p) [e, e2] [] pos) (zipD ds es) :=
  pi_imp (RZ.pi_zipA hg hm (ea_cons ha (ea_cons hb ea_nil hs2) hs) hs hpl) fun σ H R ⟨F, O0, O1, s, k⟩ => ⟨F, O0, O1, s, fun vs zs H1 s1 e1 hd r => by
    subst hd
    obtain ⟨v, w, rfl, r1, r2⟩ := rpA2 r
    cases r1 with
    | lst h1 h2 h3 =>
      cases r2 with
      | lst g1 g2 g3 => exact ⟨_, _, _, _, rfl, .inl ⟨SqL.of (msk_some h1).2, SqL.of (msk_some g1).2, k _ _ H1 s1 e1 rfl (by rw [zipD_len]; omega) (wk_zipL h1 h3 g1 g3)⟩⟩⟩
theorem ei_zipT {elts : List Expr} {kk : Nat} {tpos : Pos} (hg : Gl X "zip") (hm : X.mg "zip" = none) (ha : Ev X ρ e (.tuple ds)) (hb : Ev X ρ e2 (.tuple es))
    (hs : starEach [e, e2] X.env = (false, eval e X.env) :: starEach [e2] X.env := by rfl) (hs2 : starEach [e2] X.env = [(false, eval e2 X.env)] := by rfl) (hpl : (backTo pos (starEach [e2] X.env)).any (·.1) = false := by rfl) :
    EvI X ρ (.Tuple elts kk tpos) (.Call (.Name "zip" p) [e, e2] [] pos) (zipD ds es) :=
  pi_imp (RZ.pi_zipA hg hm (ea_cons ha (ea_cons hb ea_nil hs2) hs) hs hpl) fun σ H R ⟨F, O0, O1, s, k⟩ => ⟨F, O0, O1, s, fun vs zs H1 s1 e1 hd r => by
    subst hd
    obtain ⟨v, w, rfl, r1, r2⟩ := rpA2 r
    cases r1 with
    | tup h1 h2 h3 =>
      cases r2 with
      | tup g1 g2 g3 => exact ⟨_, _, _, _, rfl, .inr ⟨SqT.of (msk_some h1).2, SqT.of (msk_some g1).2, k _ _ H1 s1 e1 rfl (by rw [zipD_len]; omega) (wk_zipT h1 h3 g1 g3)⟩⟩⟩
end

/-! ## targets -/
/-- a slot that holds nothing of the def's own -/
def plainSD : SD → Bool
  | .un => true
  | .dat _ => true
  | _ => false
def plainAt (ρ : List SD) (i : Nat) : Bool := match ρ[i]? with
  | some s => plainSD s
  | none => false
section
variable {Hm H : Hp}
theorem Sl.set {ρ : List SD} {σ : Sg} {as : List Addr} (h : Sl Hm H ρ σ as) : ∀ {i : Nat} {v : V} {d : PyData}, plainAt ρ i = true → Rp Hm v d → Sl Hm H (ρ.set i (.dat d)) (σ.set i (some v)) as := by
  induction h with
  | nil => intro i v d e; simp [plainAt] at e
  | un h ih =>
    intro i v d e r
    cases i with
    | zero => exact .dat r h
    | succ i => exact .un (ih (by simpa [plainAt] using e) r)
  | dat q h ih =>
    intro i v d e r
    cases i with
    | zero => exact .dat r h
    | succ i => exact .dat q (ih (by simpa [plainAt] using e) r)
  | own h1 h2 h3 h4 h ih =>
    intro i v d e r
    cases i with
    | zero => simp [plainAt, plainSD] at e
    | succ i => exact .own h1 h2 h3 h4 (ih (by simpa [plainAt] using e) r)
  | mt h1 h2 h ih =>
    intro i v d e r
    cases i with
    | zero => simp [plainAt, plainSD] at e
    | succ i => exact .mt h1 h2 (ih (by simpa [plainAt] using e) r)
/-- a slot is forgotten -/
theorem Sl.drop {ρ : List SD} {σ : Sg} {as : List Addr} (h : Sl Hm H ρ σ as) : ∀ {i : Nat} {x : Option V}, plainAt ρ i = true → Sl Hm H (ρ.set i .un) (σ.set i x) as := by
  induction h with
  | nil => intro i v e; simp [plainAt] at e
  | un h ih =>
    intro i v e
    cases i with
    | zero => exact .un h
    | succ i => exact .un (ih (by simpa [plainAt] using e))
  | dat q h ih =>
    intro i v e
    cases i with
    | zero => exact .un h
    | succ i => exact .dat q (ih (by simpa [plainAt] using e))
  | own h1 h2 h3 h4 h ih =>
    intro i v e
    cases i with
    | zero => simp [plainAt, plainSD] at e
    | succ i => exact .own h1 h2 h3 h4 (ih (by simpa [plainAt] using e))
  | mt h1 h2 h ih =>
    intro i v e
    cases i with
    | zero => simp [plainAt, plainSD] at e
    | succ i => exact .mt h1 h2 (ih (by simpa [plainAt] using e))
end
def wipeD (ρ : List SD) : List Nat → List SD
  | [] => ρ
  | v :: vs => (wipeD ρ vs).set v .un
theorem plainAt_set {ρ : List SD} {i j : Nat} {s : SD} (h : plainAt ρ i = true) (hs : plainSD s = true) : plainAt (ρ.set j s) i = true := by
  unfold plainAt at h ⊢
  by_cases e : j = i
  · subst e
    rw [List.getElem?_set_self']
    cases q : ρ[j]? with
    | none => rw [q] at h; cases h
    | some z => exact hs
  · rw [List.getElem?_set_ne e]
    exact h
theorem plainAt_wipe {ρ : List SD} {i : Nat} (h : plainAt ρ i = true) : ∀ vs, plainAt (wipeD ρ vs) i = true
  | [] => h
  | v :: vs => plainAt_set (plainAt_wipe h vs) rfl
theorem Sl.wipe {Hm H : Hp} {ρ : List SD} {σ : Sg} {as : List Addr} (h : Sl Hm H ρ σ as) : ∀ {vs : List Nat}, (∀ i ∈ vs, plainAt ρ i = true) → Sl Hm H (wipeD ρ vs) (L2.wipe σ vs) as
  | [], _ => h
  | v :: vs, p => (h.wipe fun i hi => p i (List.mem_cons_of_mem _ hi)).drop (plainAt_wipe (p v List.mem_cons_self) vs)
/-- slots by one relation each -/
theorem Sl.split {Hm H : Hp} {s : SD} {ρ : List SD} {σ : Sg} {as : List Addr} (h : Sl Hm H (s :: ρ) σ as) (p : plainSD s = true) : ∃ x r, σ = x :: r ∧ Sl Hm H ρ r as ∧ ∀ d, s = .dat d → ∃ v, x = some v ∧ Rp Hm v d := by
  cases h with
  | un h => exact ⟨_, _, rfl, h, fun d e => nomatch e⟩
  | dat r h => exact ⟨_, _, rfl, h, fun d e => by cases e; exact ⟨_, rfl, r⟩⟩
  | own _ _ _ _ _ => cases p
  | mt _ _ _ => cases p
theorem Sl.cons1 {Hm H : Hp} {s : SD} {ρ : List SD} {x : Option V} {σ : Sg} {as : List Addr} (p : plainSD s = true) (h : Sl Hm H ρ σ as) (k : ∀ d, s = .dat d → ∃ v, x = some v ∧ Rp Hm v d) : Sl Hm H (s :: ρ) (x :: σ) as := by
  cases s with
  | un => exact .un h
  | dat d =>
    obtain ⟨v, rfl, r⟩ := k d rfl
    exact .dat r h
  | own _ => cases p
  | mt _ => cases p
/-- from the state of one slot less known back -/
theorem Sl.undrop {Hm Hm' H H' : Hp} (e : Ex Hm Hm') : ∀ {ρ : List SD} {σ : Sg} {as as' : List Addr} {i : Nat} {x : Option V}, Sl Hm H ρ σ as → plainAt ρ i = true → Sl Hm' H' (ρ.set i .un) (σ.set i x) as' → Sl Hm' H' ρ σ as'
  | [], _, _, _, i, _, _, p, _ => by simp [plainAt] at p
  | s :: ρ, σ, as, as', 0, x, h, p, h' => by
    have p' : plainSD s = true := p
    obtain ⟨y, r, rfl, h1, k⟩ := h.split p'
    cases h' with
    | un h2 => exact .cons1 p' h2 fun d ed => let ⟨v, e1, r1⟩ := k d ed; ⟨v, e1, r1.mono e⟩
  | s :: ρ, σ, as, as', i + 1, x, h, p, h' => by
    have p1 : plainAt ρ i = true := by simpa [plainAt] using p
    cases h with
    | un h1 =>
      cases h' with
      | un h2 => exact .un (Sl.undrop e h1 p1 h2)
    | dat r h1 =>
      cases h' with
      | dat r' h2 => exact .dat r' (Sl.undrop e h1 p1 h2)
    | own _ _ _ _ h1 =>
      cases h' with
      | own a1 a2 a3 a4 h2 => exact .own a1 a2 a3 a4 (Sl.undrop e h1 p1 h2)
    | mt _ _ h1 =>
      cases h' with
      | mt a1 a2 h2 => exact .mt a1 a2 (Sl.undrop e h1 p1 h2)
theorem Sl.unwipe {Hm Hm' H H' : Hp} (e : Ex Hm Hm') {ρ : List SD} {σ : Sg} {as as' : List Addr} (h : Sl Hm H ρ σ as) : ∀ {vs : List Nat}, (∀ i ∈ vs, plainAt ρ i = true) → Sl Hm' H' (wipeD ρ vs) (L2.wipe σ vs) as' → Sl Hm' H' ρ σ as'
  | [], _, h' => h'
  | v :: vs, p, h' => Sl.unwipe e h (fun i hi => p i (List.mem_cons_of_mem _ hi)) (Sl.undrop e (h.wipe fun i hi => p i (List.mem_cons_of_mem _ hi)) (plainAt_wipe (p v List.mem_cons_self) vs) h')
section
variable {F H H' : Hp} {O0 O1 : List Addr} {ρ ρ' : List SD} {σ σ' : Sg}
theorem SA.set (s : SA F O0 O1 ρ σ H) {i : Nat} {v : V} {d : PyData} (p : plainAt ρ i = true) (r : Rp (msk (O1 ++ O0) H) v d) : SA F O0 O1 (ρ.set i (.dat d)) (σ.set i (some v)) H := ⟨s.fr, s.sl.set p r, s.new, s.al0⟩
theorem SA.drop (s : SA F O0 O1 ρ σ H) {i : Nat} {x : Option V} (p : plainAt ρ i = true) : SA F O0 O1 (ρ.set i .un) (σ.set i x) H := ⟨s.fr, s.sl.drop p, s.new, s.al0⟩
theorem SA.wipe (s : SA F O0 O1 ρ σ H) {vs : List Nat} (p : ∀ i ∈ vs, plainAt ρ i = true) : SA F O0 O1 (wipeD ρ vs) (L2.wipe σ vs) H := ⟨s.fr, s.sl.wipe p, s.new, s.al0⟩
theorem SA.unwipe (s : SA F O0 O1 ρ σ H) {vs : List Nat} (p : ∀ i ∈ vs, plainAt ρ i = true) (e : Ex (msk (O1 ++ O0) H) (msk (O1 ++ O0) H')) (s' : SA F O0 O1 (wipeD ρ vs) (L2.wipe σ vs) H') : SA F O0 O1 ρ σ H' :=
  ⟨s'.fr, s.sl.unwipe e p s'.sl, s'.new, s'.al0⟩
end
/-- a target's reading: from ρ a thing of data d is stored; then ρ'; only the slots js change -/
def tG (ρ : List SD) (d : PyData) (ρ' : List SD) (js : List Nat) : TG := fun v σ H Q => ∃ F O0 O1, SA F O0 O1 ρ σ H ∧ Rp (msk (O1 ++ O0) H) v d ∧ ∀ σ', L2.wipe σ' js = L2.wipe σ js → SA F O0 O1 ρ' σ' H → Q σ' H
abbrev EvG (X : Cx) (tg : Expr) (ρ : List SD) (d : PyData) (ρ' : List SD) (js : List Nat) : Prop := PG X tg (tG ρ d ρ' js)
theorem wipe_set {σ : Sg} {i : Nat} {x : Option V} {js : List Nat} (h : i ∈ js) : L2.wipe (σ.set i x) js = L2.wipe σ js := by
  apply List.ext_getElem?
  intro j
  by_cases hj : j ∈ js
  · have g : ∀ (τ : Sg) (vs : List Nat), j ∈ vs → (L2.wipe τ vs)[j]? = if j < τ.length then some none else none := by
      intro τ vs
      induction vs with
      | nil => intro z; simp at z
      | cons v vs ih =>
        intro z
        show ((L2.wipe τ vs).set v none)[j]? = _
        by_cases e : v = j
        · subst e
          rw [List.getElem?_set_self', ]
          have hl := wipe_length τ vs
          by_cases c : v < τ.length
          · rw [if_pos c, List.getElem?_eq_getElem (by rw [hl]; exact c)]; rfl
          · rw [if_neg c, List.getElem?_eq_none (by rw [hl]; omega)]; rfl
        · rw [List.getElem?_set_ne e]
          exact ih ((List.mem_cons.mp z).resolve_left fun q => e q.symm)
    rw [g _ _ hj, g _ _ hj, List.length_set]
  · rw [wipe_out hj, wipe_out hj]
    exact List.getElem?_set_ne fun e => hj (by rw [← e]; exact h)
section
variable {X : Cx} {ρ ρ1 ρ2 : List SD} {d d1 d2 : PyData} {js : List Nat} {pos : Pos} {t1 t2 : Expr}
theorem eg_name (i : Nat) {x : Str} (hN : X.N.Nodup) (hi : X.N[i]? = some x := by rfl) (hx : Loc X.env.scope x := by first | exact Or.inl rfl | exact Or.inr rfl) (hp : plainAt ρ i = true := by rfl) (hj : decide (i ∈ js) = true := by rfl) (hf : X.fn x = true ∨ X.env.scope.names.lookup x = some .local := by first | exact .inl rfl | exact .inr rfl | assumption) :
    EvG X (.Name x pos) ρ d (ρ.set i (.dat d)) js :=
  pg_imp (pg_name hN hi hx hf) fun v σ H Q ⟨F, O0, O1, s, r, k⟩ => k _ (wipe_set (of_decide_eq_true hj)) (s.set hp r)
/-- several targets, one after the other -/
inductive EvGs (X : Cx) : List Expr → List SD → List PyData → List SD → List Nat → Prop
  | nil {ρ : List SD} {js : List Nat} : EvGs X [] ρ [] ρ js
  | cons {e : Expr} {es : List Expr} {ρ ρ1 ρ2 : List SD} {d : PyData} {ds : List PyData} {js : List Nat} : EvG X e ρ d ρ1 js → EvGs X es ρ1 ds ρ2 js → (assignEach (e :: es) X.env).map (·.2) = assign e X.env :: (assignEach es X.env).map (·.2) → EvGs X (e :: es) ρ (d :: ds) ρ2 js
def tGs (ρ : List SD) (ds : List PyData) (ρ' : List SD) (js : List Nat) : TGs := fun vs σ H Q => ∃ F O0 O1, SA F O0 O1 ρ σ H ∧ RpA (msk (O1 ++ O0) H) vs ds ∧ ∀ σ', L2.wipe σ' js = L2.wipe σ js → SA F O0 O1 ρ' σ' H → Q σ' H
theorem pgs_imp {es : List Expr} {t t' : TGs} (h : PGs X es t) (k : ∀ v σ H Q, t' v σ H Q → t v σ H Q) : PGs X es t' := ⟨fun pins s σ H v u Q I r q => h.run pins s σ H v u Q I r (k v σ H Q q)⟩
theorem EvGs.pgs {es : List Expr} {ρ ρ' : List SD} {ds : List PyData} {js : List Nat} (h : EvGs X es ρ ds ρ' js) : PGs X es (tGs ρ ds ρ' js) := by
  induction h with
  | nil => exact pgs_imp pgs_nil fun vs σ H Q ⟨F, O0, O1, s, r, k⟩ => by cases r; exact ⟨rfl, k σ rfl s⟩
  | cons h1 h2 hs ih =>
    exact pgs_imp (pgs_cons h1 ih hs) fun vs σ H Q ⟨F, O0, O1, s, r, k⟩ => by
      cases r with
      | cons r1 r2 => exact ⟨_, _, rfl, F, O0, O1, s, r1, fun σ' w s' => ⟨F, O0, O1, s', r2, fun σ2 w2 s2 => k σ2 (w2.trans w) s2⟩⟩
theorem eg_tup {es : List Expr} {k : Nat} {ds : List PyData} (hc : X.calm = true) (h : EvGs X es ρ ds ρ1 js) (hn : (assignEach es X.env).length = ds.length := by rfl) (hst : (assignEach es X.env).findIdx? (·.1) = none := by rfl) :
    EvG X (.Tuple es k pos) ρ (.tuple ds) ρ1 js :=
  pg_imp (pg_tup hc h.pgs hn hst) fun v σ H Q ⟨F, O0, O1, s, r, k⟩ => by
    cases r with
    | tup h1 h2 h3 => exact ⟨_, _, rfl, SqT.of (msk_some h1).2, h3.len, F, O0, O1, s, h3, k⟩
end

/-! ## comprehensions -/
/-- an expression that gives a new list (p, known to nobody else) -/
def tF (ρ : List SD) (E : List PyData → Prop) : TE := fun σ H Q => ∃ F O0 O1, SA F O0 O1 ρ σ H ∧
  ∀ p xs ds H', SA F (p :: O0) O1 ρ σ H' → F p = none → p ∉ O1 ++ O0 → H' p = some (.lst xs) → RpA (msk (O1 ++ p :: O0) H') xs ds → ds.length ≤ big → E ds → Ex (msk (O1 ++ O0) H) (msk (O1 ++ p :: O0) H') → Q (.ref p) H'
abbrev EvF (X : Cx) (ρ : List SD) (e : Expr) (E : List PyData → Prop) : Prop := PE X e (tF ρ E)
theorem sub_cons {O0 O1 : List Addr} {p : Addr} : ∀ a ∈ O1 ++ O0, a ∈ O1 ++ p :: O0 := fun a ha => by
  rcases List.mem_append.mp ha with z | z
  · exact List.mem_append_left _ z
  · exact List.mem_append_right _ (List.mem_cons_of_mem _ z)
theorem SA.unmask {F H : Hp} {O0 O1 : List Addr} {ρ : List SD} {σ : Sg} {p : Addr} (s : SA F (p :: O0) O1 ρ σ H) : SA F O0 O1 ρ σ H :=
  ⟨s.fr, s.sl.mono (Ex.mskSub sub_cons) fun a _ => rfl, fun a ha => ⟨(s.new a ha).1, fun z => (s.new a ha).2 (List.mem_cons_of_mem _ z)⟩, fun a ha => s.al0 a (List.mem_cons_of_mem _ ha)⟩
theorem tF_of {ρ : List SD} {E : List PyData → Prop} {D : PyData → Prop} (h : ∀ ds, E ds → D (.list ds)) (σ : Sg) (H : Hp) (Q : VK) (q : tP ρ D σ H Q) : tF ρ E σ H Q := by
  obtain ⟨F, O0, O1, s, k⟩ := q
  refine ⟨F, O0, O1, s, fun p xs ds H' s' hF hp hx r hl hE e => k (.ref p) (.list ds) H' s'.unmask (e.trans (Ex.mskSub sub_cons)) (h ds hE) (.lst ?_ hl (r.mono (Ex.mskSub sub_cons)))⟩
  rw [msk_out hp]
  exact hx
theorem evn_of_f {X : Cx} {ρ : List SD} {e : Expr} {E : List PyData → Prop} {D : PyData → Prop} (h : EvF X ρ e E) (k : ∀ ds, E ds → D (.list ds)) : EvN X ρ e D := pe_imp h (tF_of k)
theorem tLst_f {ρ : List SD} {E : List PyData → Prop} (hl : ∀ ds, E ds → ds.length ≤ big) (σ : Sg) (H : Hp) (Q : VK) (q : tF ρ E σ H Q) : tLst (tAs ρ E) σ H Q := by
  obtain ⟨F, O0, O1, s, k⟩ := q
  refine ⟨F, O0, O1, s, fun vs ds H1 s1 e1 hd r1 => ⟨by rw [r1.len]; exact le_line (hl ds hd), fun p hp => ?_⟩⟩
  have hn : p ∉ O1 ++ O0 := s1.al.out hp
  have hF : F p = none := by
    cases w : F p with
    | none => rfl
    | some o => rw [s1.fr p o w] at hp; cases hp
  have em : Ex (msk (O1 ++ O0) H1) (msk (O1 ++ p :: O0) (upd H1 p (.lst vs))) := fun a u h => by
    obtain ⟨q1, q2⟩ := msk_some h
    have na : a ≠ p := ne_of_none q2 hp
    rw [msk_out fun z => ?_, upd_ne na]
    · exact q2
    · rcases List.mem_append.mp z with z | z
      · exact q1 (List.mem_append_left _ z)
      · rcases List.mem_cons.mp z with z | z
        · exact na z
        · exact q1 (List.mem_append_right _ z)
  refine k p vs ds _ ⟨s1.fr.trans (Ex.new hp), s1.sl.mono em fun a ha => upd_ne fun z => hn (by rw [← z]; exact List.mem_append_left _ ha), fun a ha => ⟨(s1.new a ha).1, fun z => ?_⟩, fun a ha => ?_⟩ hF hn upd_same (r1.mono em) (hl ds hd) hd (e1.trans em)
  · rcases List.mem_cons.mp z with z | z
    · exact hn (by rw [← z]; exact List.mem_append_left _ ha)
    · exact (s1.new a ha).2 z
  · rcases List.mem_cons.mp ha with z | z
    · rw [z, upd_same]; exact fun q => nomatch q
    · exact s1.al0.ex (Ex.new hp) a z
theorem ef_lst {X : Cx} {ρ : List SD} {es : List Expr} {pos : Pos} {E : List PyData → Prop} (h : EvAN X ρ es E) (hl : ∀ ds, E ds → ds.length ≤ big) : EvF X ρ (.List es pos) E := pe_imp (pe_lst h) (tLst_f hl)
section
variable {X : Cx} {ρ : List SD} {elt tg iter : Expr} {ifs : List Expr} {scope : Scope} {own : List (Str × Nat)} {pos : Pos}
/-- the parts of a comprehension: over things that come; whether an item is kept, what is made of it: any answers. Pv: by the turn, what has been made -/
structure Lc (X : Cx) (ρ : List SD) (elt tg iter : Expr) (ifs : List Expr) (scope : Scope) (own : List (Str × Nat)) (E : List PyData → Prop) (B : List PyData → Nat → Bool → Prop) (G : List PyData → Nat → PyData → Prop) (ρ' : List PyData → Nat → List SD) (Pv : List PyData → Nat → List PyData → Prop) : Prop where
  hi : EvIN X ρ tg iter E
  ok : BlkOk X.N X.env.scope scope own
  hp : ∀ i ∈ own.map (·.2), plainAt ρ i = true
  hg : ∀ ds (i : Nat) d, E ds → ds[i]? = some d → ∀ (s : Shared) (H : Hp) (C : Addr) (cl : List (Str × Addr)) (fp : List Addr), EvG (X.blk s H scope (compEnvC scope cl C X.env) fp) tg (wipeD ρ (own.map (·.2))) d (ρ' ds i) (own.map (·.2))
  hw : ∀ ds (i : Nat) d, E ds → ds[i]? = some d → wipeD (ρ' ds i) (own.map (·.2)) = wipeD ρ (own.map (·.2))
  hp' : ∀ ds (i : Nat) d, E ds → ds[i]? = some d → ∀ j ∈ own.map (·.2), plainAt (ρ' ds i) j = true
  ht : ∀ ds (i : Nat) d, E ds → ds[i]? = some d → ∀ (s : Shared) (H : Hp) (C : Addr) (cl : List (Str × Addr)) (fp : List Addr), PTs (X.blk s H scope (compEnvC scope cl C X.env) fp) ifs (tT (ρ' ds i) (B ds i))
  he : ∀ ds (i : Nat) d, E ds → ds[i]? = some d → B ds i true → ∀ (s : Shared) (H : Hp) (C : Addr) (cl : List (Str × Addr)) (fp : List Addr), PE (X.blk s H scope (compEnvC scope cl C X.env) fp) elt (tP (ρ' ds i) (G ds i))
  h0 : ∀ ds, E ds → Pv ds 0 []
  h1 : ∀ ds i es z, E ds → i < ds.length → Pv ds i es → B ds i true → G ds i z → Pv ds (i + 1) (es ++ [z])
  h2 : ∀ ds i es, E ds → i < ds.length → Pv ds i es → B ds i false → Pv ds (i + 1) es
def LcG (ρ : List SD) (own : List (Str × Nat)) (E : List PyData → Prop) (ρ' : List PyData → Nat → List SD) : TG := fun v σ H Q => ∃ a : List PyData × Nat × PyData, (E a.1 ∧ a.1[a.2.1]? = some a.2.2) ∧ tG (wipeD ρ (own.map (·.2))) a.2.2 (ρ' a.1 a.2.1) (own.map (·.2)) v σ H Q
def LcT (E : List PyData → Prop) (B : List PyData → Nat → Bool → Prop) (ρ' : List PyData → Nat → List SD) : TT := fun σ H Q => ∃ a : List PyData × Nat × PyData, (E a.1 ∧ a.1[a.2.1]? = some a.2.2) ∧ tT (ρ' a.1 a.2.1) (B a.1 a.2.1) σ H Q
def LcE (E : List PyData → Prop) (B : List PyData → Nat → Bool → Prop) (G : List PyData → Nat → PyData → Prop) (ρ' : List PyData → Nat → List SD) : TE := fun σ H Q => ∃ a : List PyData × Nat × PyData, (E a.1 ∧ a.1[a.2.1]? = some a.2.2 ∧ B a.1 a.2.1 true) ∧ tP (ρ' a.1 a.2.1) (G a.1 a.2.1) σ H Q
variable {E : List PyData → Prop} {B : List PyData → Nat → Bool → Prop} {G : List PyData → Nat → PyData → Prop} {ρ' : List PyData → Nat → List SD} {Pv : List PyData → Nat → List PyData → Prop}
theorem Lc.gA (L : Lc X ρ elt tg iter ifs scope own E B G ρ' Pv) : ∀ (s : Shared) (H : Hp) (C : Addr) (cl : List (Str × Addr)) (fp : List Addr), PG (X.blk s H scope (compEnvC scope cl C X.env) fp) tg (LcG ρ own E ρ') := fun s H C cl fp => pg_any fun a ha => L.hg a.1 a.2.1 a.2.2 ha.1 ha.2 s H C cl fp
theorem Lc.tA (L : Lc X ρ elt tg iter ifs scope own E B G ρ' Pv) : ∀ (s : Shared) (H : Hp) (C : Addr) (cl : List (Str × Addr)) (fp : List Addr), PTs (X.blk s H scope (compEnvC scope cl C X.env) fp) ifs (LcT E B ρ') := fun s H C cl fp => pts_any fun a ha => L.ht a.1 a.2.1 a.2.2 ha.1 ha.2 s H C cl fp
theorem Lc.eA (L : Lc X ρ elt tg iter ifs scope own E B G ρ' Pv) : ∀ (s : Shared) (H : Hp) (C : Addr) (cl : List (Str × Addr)) (fp : List Addr), PE (X.blk s H scope (compEnvC scope cl C X.env) fp) elt (LcE E B G ρ') := fun s H C cl fp => pe_any fun a ha => L.he a.1 a.2.1 a.2.2 ha.1 ha.2.1 ha.2.2 s H C cl fp
theorem Lc.rd (L : Lc X ρ elt tg iter ifs scope own E B G ρ' Pv) (σ : Sg) (H : Hp) (Q : VK) (h : tF ρ (fun es => ∃ ds, E ds ∧ Pv ds ds.length es) σ H Q) :
    tLc (tIN ρ E) (LcG ρ own E ρ') (LcT E B ρ') (LcE E B G ρ') (own.map (·.2)) σ H Q := by
  obtain ⟨F, O0, O1, s, k⟩ := h
  obtain ⟨hi, ok, hp, hg, hw, hp', ht, he, h0, h1, h2⟩ := L
  refine ⟨F, O0, O1, s, fun ds J H1 s1 e1 hE hlen wk => ?_⟩
  intro Dn hD
  have nD : Dn ∉ O1 ++ O0 := s1.al.out hD
  have mD : ∀ (H' : Hp) (o : HO), Ex (msk (O1 ++ O0) H1) (msk (O1 ++ Dn :: O0) H') → Ex (msk (O1 ++ O0) H1) (msk (O1 ++ Dn :: O0) (upd H' Dn o)) := fun H' o e a u h => by
    have h' := e a u h
    obtain ⟨q1, q2⟩ := msk_some h'
    rw [msk_out q1, upd_ne fun z => q1 (by rw [z]; exact List.mem_append_right _ List.mem_cons_self)]
    exact q2
  have inD : Dn ∈ O1 ++ Dn :: O0 := List.mem_append_right _ List.mem_cons_self
  refine ⟨fun i m H' => m = ds.length - i ∧ i ≤ ds.length ∧ ∃ acc es, H' Dn = some (.lst acc) ∧ RpA (msk (O1 ++ Dn :: O0) H') acc es ∧ es.length ≤ i ∧ Pv ds i es ∧ SA F (Dn :: O0) O1 ρ σ H' ∧ Ex (msk (O1 ++ O0) H1) (msk (O1 ++ Dn :: O0) H'), ?_, ?_⟩
  · refine ⟨ds.length, by simp, Nat.zero_le _, [], [], upd_same, .nil, Nat.le_refl _, h0 ds hE, ?_, ?_⟩
    · refine ⟨s1.fr.trans (Ex.new hD), ?_, fun a ha => ?_, fun a ha => ?_⟩
      · refine s1.sl.mono (fun a u h => ?_) fun a ha => upd_ne fun z => nD (by rw [← z]; exact List.mem_append_left _ ha)
        obtain ⟨q1, q2⟩ := msk_some h
        have na : a ≠ Dn := ne_of_none q2 hD
        rw [msk_out fun z => ?_, upd_ne na]
        · exact q2
        · rcases List.mem_append.mp z with z | z
          · exact q1 (List.mem_append_left _ z)
          · rcases List.mem_cons.mp z with z | z
            · exact na z
            · exact q1 (List.mem_append_right _ z)
      · refine ⟨(s1.new a ha).1, fun z => ?_⟩
        rcases List.mem_cons.mp z with z | z
        · exact nD (by rw [← z]; exact List.mem_append_left _ ha)
        · exact (s1.new a ha).2 z
      · rcases List.mem_cons.mp ha with z | z
        · rw [z, upd_same]; exact fun q => nomatch q
        · exact s1.al0.ex (Ex.new hD) a z
    · intro a u h
      obtain ⟨q1, q2⟩ := msk_some h
      have na : a ≠ Dn := ne_of_none q2 hD
      rw [msk_out fun z => ?_, upd_ne na]
      · exact q2
      · rcases List.mem_append.mp z with z | z
        · exact q1 (List.mem_append_left _ z)
        · rcases List.mem_cons.mp z with z | z
          · exact na z
          · exact q1 (List.mem_append_right _ z)
  · rintro i m H2 ⟨rfl, hi2, acc, es, hacc, racc, hes, pv, s2, e2⟩
    have e2u : Ex (msk (O1 ++ O0) H1) H2 := e2.trans Ex.unmsk
    obtain ⟨wgo, wstop⟩ := wk i H2 e2u
    by_cases hlt : i < ds.length
    · have hdi : ds[i]? = some ds[i] := List.getElem?_eq_getElem hlt
      obtain ⟨go, yl⟩ := wgo _ hdi
      refine .inr ⟨go, fun H' => ∃ acc es, H' Dn = some (.lst acc) ∧ RpA (msk (O1 ++ Dn :: O0) H') acc es ∧ es.length ≤ i + 1 ∧ Pv ds (i + 1) es ∧ SA F (Dn :: O0) O1 ρ σ H' ∧ Ex (msk (O1 ++ O0) H1) (msk (O1 ++ Dn :: O0) H'), fun H' hN' => ⟨ds.length - (i + 1), by omega, rfl, hlt, hN'⟩, fun x H3 y => ?_⟩
      obtain ⟨e3, rx⟩ := yl x H3 y
      have fz : ∀ a ∈ O1 ++ Dn :: O0, msk (O1 ++ O0) H1 a = none := fun a ha => by
        by_cases c : a ∈ O1 ++ O0
        · exact msk_in c
        · have z : a = Dn := by
            rcases List.mem_append.mp ha with z | z
            · exact absurd (List.mem_append_left _ z) c
            · rcases List.mem_cons.mp z with z | z
              · exact z
              · exact absurd (List.mem_append_right _ z) c
          rw [msk_out c, z]; exact hD
      have rx' := rx (O1 ++ Dn :: O0) s2.al fz
      have s3 := s2.ex e3
      have acc3 : H3 Dn = some (.lst acc) := e3 _ _ hacc
      -- the frame: the list as it stands too
      have fr : ∀ {H'} , SA F (Dn :: O0) O1 ρ σ H' → H' Dn = some (.lst acc) → SA (upd F Dn (.lst acc)) (Dn :: O0) O1 ρ σ H' := fun {H'} z q => ⟨fun a u h => by
          by_cases c : a = Dn
          · rw [c, upd_same] at h; rw [c, q]; exact h
          · rw [upd_ne c] at h; exact z.fr a u h, z.sl, fun a ha => ⟨by rw [upd_ne fun c => (z.new a ha).2 (by rw [c]; exact List.mem_cons_self)]; exact (z.new a ha).1, (z.new a ha).2⟩, z.al0⟩
      have sF := fr s3 acc3
      have sW := sF.wipe hp
      have FD : F Dn = none ∨ ∃ o, F Dn = some o := by cases F Dn with | none => exact .inl rfl | some o => exact .inr ⟨o, rfl⟩
      have unF : ∀ {O ρ σ H'}, SA (upd F Dn (.lst acc)) (Dn :: O0) O ρ σ H' → (∀ o, F Dn = some o → False) → SA F (Dn :: O0) O ρ σ H' := fun {O ρ σ H'} z q => ⟨fun a u h => by
          by_cases c : a = Dn
          · rw [c] at h; exact (q u h).elim
          · exact z.fr a u (by rw [upd_ne c]; exact h), z.sl, fun a ha => ⟨by
          have h := (z.new a ha).1
          by_cases c : a = Dn
          · rw [c]
            cases w : F Dn with
            | none => rfl
            | some o => exact (q o w).elim
          · rw [upd_ne c] at h; exact h, (z.new a ha).2⟩, z.al0⟩
      have FDn : ∀ o, F Dn = some o → False := fun o h => by have := s1.fr Dn o h; rw [hD] at this; cases this
      refine ⟨(ds, i, ds[i]), ⟨hE, hdi⟩, upd F Dn (.lst acc), Dn :: O0, O1, sW, rx', fun σ2 w2 s4 => ⟨w2.trans (by
        apply List.ext_getElem?
        intro j
        have g : ∀ (vs : List Nat) (τ : Sg), (∀ v ∈ vs, v ∈ own.map (·.2)) → L2.wipe (L2.wipe τ vs) (own.map (·.2)) = L2.wipe τ (own.map (·.2)) := by
          intro vs
          induction vs with
          | nil => intro τ _; rfl
          | cons v vs ih =>
            intro τ hv
            show L2.wipe ((L2.wipe τ vs).set v none) _ = _
            rw [wipe_set (hv v List.mem_cons_self)]
            exact ih τ fun z hz => hv z (List.mem_cons_of_mem _ hz)
        rw [g _ σ fun v hv => hv]), ?_⟩⟩
      refine ⟨(ds, i, ds[i]), ⟨hE, hdi⟩, upd F Dn (.lst acc), Dn :: O0, O1, s4, fun b H4 s5 e5 hB => ?_⟩
      -- back to the slots as they were
      have back : ∀ {H'}, SA (upd F Dn (.lst acc)) (Dn :: O0) O1 (ρ' ds i) σ2 H' → Ex (msk (O1 ++ Dn :: O0) H3) (msk (O1 ++ Dn :: O0) H') → SA F (Dn :: O0) O1 ρ σ H' := fun {H'} z q => by
        have z1 := z.wipe (hp' ds i _ hE hdi)
        rw [hw ds i _ hE hdi, w2] at z1
        have g : L2.wipe (L2.wipe σ (own.map (·.2))) (own.map (·.2)) = L2.wipe σ (own.map (·.2)) := by
          have g : ∀ (vs : List Nat) (τ : Sg), (∀ v ∈ vs, v ∈ own.map (·.2)) → L2.wipe (L2.wipe τ vs) (own.map (·.2)) = L2.wipe τ (own.map (·.2)) := by
            intro vs
            induction vs with
            | nil => intro τ _; rfl
            | cons v vs ih =>
              intro τ hv
              show L2.wipe ((L2.wipe τ vs).set v none) _ = _
              rw [wipe_set (hv v List.mem_cons_self)]
              exact ih τ fun z hz => hv z (List.mem_cons_of_mem _ hz)
          exact g _ σ fun v hv => hv
        rw [g] at z1
        exact unF (sF.unwipe hp q z1) FDn
      have e23 : Ex (msk (O1 ++ Dn :: O0) H2) (msk (O1 ++ Dn :: O0) H3) := e3.msk
      cases b with
      | false =>
        refine iteF ?_
        have hD4 : H4 Dn = some (.lst acc) := s5.fr Dn _ upd_same
        exact ⟨acc, es, hD4, (racc.mono e23).mono e5, Nat.le_succ_of_le hes, h2 ds i es hE hlt pv hB, back s5 e5, (e2.trans e23).trans e5⟩
      | true =>
        refine iteT ?_
        refine ⟨(ds, i, ds[i]), ⟨hE, hdi, hB⟩, upd F Dn (.lst acc), Dn :: O0, O1, s5, fun y d H5 s6 e6 hG ry => ?_⟩
        have hD5 : H5 Dn = some (.lst acc) := s6.fr Dn _ upd_same
        have e35 := e5.trans e6
        have sB := back s6 e35
        have eL : Ex (msk (O1 ++ Dn :: O0) H5) (msk (O1 ++ Dn :: O0) (upd H5 Dn (.lst (acc ++ [y])))) := fun a u h => by
          obtain ⟨q1, q2⟩ := msk_some h
          rw [msk_out q1, upd_ne fun z => q1 (by rw [z]; exact inD)]
          exact q2
        refine ⟨acc, hD5, ?_, acc ++ [y], es ++ [d], upd_same, ?_, ?_, h1 ds i es d hE hlt pv hB hG, ?_, ?_⟩
        · rw [racc.len]
          exact Nat.lt_of_lt_of_le (Nat.lt_of_le_of_lt hes hlt) (le_line hlen)
        · exact ((((racc.mono e23).mono e35).mono eL).append (.cons (ry.mono eL) .nil))
        · rw [List.length_append]; exact Nat.add_le_add_right hes 1
        · refine ⟨fun a u h => ?_, sB.sl.mono eL fun a ha => upd_ne fun z => (sB.new a ha).2 (by rw [z]; exact List.mem_cons_self), sB.new, fun a ha => ?_⟩
          · rw [upd_ne fun z => FDn u (by rw [← z]; exact h)]
            exact sB.fr a u h
          · by_cases c : a = Dn
            · rw [c, upd_same]; exact fun z => nomatch z
            · rw [upd_ne c]; exact sB.al0 a ha
        · exact mD H5 _ ((e2.trans e23).trans e35)
    · have ei : i = ds.length := by omega
      subst ei
      refine .inl ⟨wstop (Nat.le_refl _), ?_⟩
      exact k Dn acc es H2 s2 (by
        cases w : F Dn with
        | none => rfl
        | some o => have := s1.fr Dn o w; rw [hD] at this; cases this) nD hacc racc (Nat.le_trans hes hlen) ⟨ds, hE, pv⟩ (e1.trans e2)
theorem ef_lc (hc : X.calm = true) (hN : X.N.Nodup) (L : Lc X ρ elt tg iter ifs scope own E B G ρ' Pv) (hs : ∀ x, foldedSetIterable iter X.env x = pure x := by intro _; rfl) : EvF X ρ (.ListComp elt [⟨tg, iter, ifs, 0⟩] scope pos) (fun es => ∃ ds, E ds ∧ Pv ds ds.length es) :=
  pe_imp (pe_lc hc hN L.hi L.ok L.gA L.tA L.eA hs) L.rd
/-- over a list that is known, answers that are known -/
theorem Lc.mk1 {α : Type} {xs : List α} {enc : α → PyData} {g : α → Bool} {f : α → PyData} (own : List (Str × Nat)) (ρt : α → List SD) (hi : EvI X ρ tg iter (xs.map enc)) (ok : BlkOk X.N X.env.scope scope own) (hp : (own.map (·.2)).all (plainAt ρ) = true)
    (hg : ∀ x ∈ xs, ∀ (s : Shared) (H : Hp) (C : Addr) (cl : List (Str × Addr)) (fp : List Addr), EvG (X.blk s H scope (compEnvC scope cl C X.env) fp) tg (wipeD ρ (own.map (·.2))) (enc x) (ρt x) (own.map (·.2)))
    (hw : ∀ x ∈ xs, wipeD (ρt x) (own.map (·.2)) = wipeD ρ (own.map (·.2))) (hp' : ∀ x ∈ xs, (own.map (·.2)).all (plainAt (ρt x)) = true)
    (ht : ∀ x ∈ xs, ∀ (s : Shared) (H : Hp) (C : Addr) (cl : List (Str × Addr)) (fp : List Addr), PTs (X.blk s H scope (compEnvC scope cl C X.env) fp) ifs (tT (ρt x) (Eq (g x))))
    (he : ∀ x ∈ xs, g x = true → ∀ (s : Shared) (H : Hp) (C : Addr) (cl : List (Str × Addr)) (fp : List Addr), Ev (X.blk s H scope (compEnvC scope cl C X.env) fp) (ρt x) elt (f x)) :
    Lc X ρ elt tg iter ifs scope own (Eq (xs.map enc)) (fun _ i b => ∃ x, xs[i]? = some x ∧ g x = b) (fun _ i d => ∃ x, xs[i]? = some x ∧ f x = d) (fun _ i => match xs[i]? with | some x => ρt x | none => []) (fun _ i es => es = ((xs.take i).filter g).map f) := by
  have mem : ∀ {i : Nat} {x : α}, xs[i]? = some x → x ∈ xs := fun h => List.mem_of_getElem? h
  have here : ∀ {i : Nat} {d : PyData}, (xs.map enc)[i]? = some d → ∃ x, xs[i]? = some x ∧ enc x = d := fun {i d} h => by
    rw [List.getElem?_map] at h
    cases q : xs[i]? with
    | none => rw [q] at h; cases h
    | some x => rw [q] at h; exact ⟨x, rfl, Option.some.inj h⟩
  have tk : ∀ {i : Nat} {x : α}, xs[i]? = some x → xs.take (i + 1) = xs.take i ++ [x] := fun {i x} h => by
    rw [List.take_add_one, h]; rfl
  refine ⟨hi, ok, fun i hi => List.all_eq_true.mp hp i hi, fun ds i d hE hd => ?_, fun ds i d hE hd => ?_, fun ds i d hE hd => ?_, fun ds i d hE hd => ?_, fun ds i d hE hd hB => ?_, fun ds _ => rfl, fun ds i es z hE hl pv hB hG => ?_, fun ds i es hE hl pv hB => ?_⟩
  · subst hE; obtain ⟨x, hx, rfl⟩ := here hd; rw [hx]; exact hg x (mem hx)
  · subst hE; obtain ⟨x, hx, rfl⟩ := here hd; rw [hx]; exact hw x (mem hx)
  · subst hE; obtain ⟨x, hx, rfl⟩ := here hd; rw [hx]; exact fun j hj => List.all_eq_true.mp (hp' x (mem hx)) j hj
  · subst hE; obtain ⟨x, hx, rfl⟩ := here hd; rw [hx]
    intro s H C cl fp
    refine pts_imp (ht x (mem hx) s H C cl fp) fun σ H Q ⟨F, O0, O1, s, k⟩ => ⟨F, O0, O1, s, fun b H' s' e' hb => k b H' s' e' ⟨x, rfl, hb⟩⟩
  · subst hE; obtain ⟨x, hx, rfl⟩ := here hd; obtain ⟨x', hx', hb⟩ := hB
    rw [hx] at hx'; cases hx'
    rw [hx]
    intro s H C cl fp
    exact evn_imp (he x (mem hx) hb s H C cl fp) fun d hd => ⟨x, rfl, hd⟩
  · subst pv; obtain ⟨x, hx, hb⟩ := hB; obtain ⟨x', hx', hz⟩ := hG
    rw [hx] at hx'; cases hx'
    rw [tk hx, List.filter_append, List.filter_cons_of_pos hb, List.map_append, ← hz]; rfl
  · subst pv; obtain ⟨x, hx, hb⟩ := hB
    rw [tk hx, List.filter_append, List.filter_cons_of_neg (by rw [hb]; exact Bool.false_ne_true), List.filter_nil, List.append_nil]
theorem lc_end {α : Type} {xs : List α} {enc : α → PyData} {g : α → Bool} {f : α → PyData} : ∀ es : List PyData, (∃ ds, xs.map enc = ds ∧ es = ((xs.take ds.length).filter g).map f) → (xs.filter g).map f = es := fun es ⟨ds, e, h⟩ => by
  subst e
  rw [List.length_map, List.take_length] at h
  exact h.symm
theorem ev_lcF (hc : X.calm = true) (hN : X.N.Nodup) {α : Type} {xs : List α} {enc : α → PyData} {g : α → Bool} {f : α → PyData} {ρ' : List PyData → Nat → List SD} {B G}
    (L : Lc X ρ elt tg iter ifs scope own (Eq (xs.map enc)) B G ρ' (fun _ i es => es = ((xs.take i).filter g).map f)) (hs : ∀ x, foldedSetIterable iter X.env x = pure x := by intro _; rfl) : EvF X ρ (.ListComp elt [⟨tg, iter, ifs, 0⟩] scope pos) (Eq ((xs.filter g).map f)) :=
  pe_imp (ef_lc hc hN L hs) fun σ H Q ⟨F, O0, O1, s, k⟩ => ⟨F, O0, O1, s, fun p xs' ds H' a1 a2 a3 a4 a5 a6 a7 a8 => k p xs' ds H' a1 a2 a3 a4 a5 a6 (lc_end ds a7) a8⟩
theorem ev_lc (hc : X.calm = true) (hN : X.N.Nodup) {α : Type} {xs : List α} {enc : α → PyData} {g : α → Bool} {f : α → PyData} {ρ' : List PyData → Nat → List SD} {B G}
    (L : Lc X ρ elt tg iter ifs scope own (Eq (xs.map enc)) B G ρ' (fun _ i es => es = ((xs.take i).filter g).map f)) (hs : ∀ x, foldedSetIterable iter X.env x = pure x := by intro _; rfl) : Ev X ρ (.ListComp elt [⟨tg, iter, ifs, 0⟩] scope pos) (.list ((xs.filter g).map f)) :=
  evn_of_f (ev_lcF hc hN L hs) fun ds e => by subst e; rfl
theorem ev_lcE (hc : X.calm = true) (hN : X.N.Nodup) {α β : Type} {xs : List α} {enc : α → PyData} {g : α → Bool} {f : α → β} {enc' : β → PyData} {ρ' : List PyData → Nat → List SD} {B G}
    (L : Lc X ρ elt tg iter ifs scope own (Eq (xs.map enc)) B G ρ' (fun _ i es => es = ((xs.take i).filter g).map fun x => enc' (f x))) (hs : ∀ x, foldedSetIterable iter X.env x = pure x := by intro _; rfl) : Ev X ρ (.ListComp elt [⟨tg, iter, ifs, 0⟩] scope pos) (.list (((xs.filter g).map f).map enc')) := by
  have h := ev_lc (pos := pos) hc hN L hs
  rw [List.map_map]
  exact h
theorem ev_lcE0 (hc : X.calm = true) (hN : X.N.Nodup) {α β : Type} {xs : List α} {enc : α → PyData} {f : α → β} {enc' : β → PyData} {ρ' : List PyData → Nat → List SD} {B G}
    (L : Lc X ρ elt tg iter ifs scope own (Eq (xs.map enc)) B G ρ' (fun _ i es => es = ((xs.take i).filter fun _ => true).map fun x => enc' (f x))) (hs : ∀ x, foldedSetIterable iter X.env x = pure x := by intro _; rfl) : Ev X ρ (.ListComp elt [⟨tg, iter, ifs, 0⟩] scope pos) (.list ((xs.map f).map enc')) := by
  have h := ev_lcE (pos := pos) hc hN L hs
  rw [List.filter_eq_self.mpr (fun _ _ => rfl)] at h
  exact h
/-- what such a comprehension has made -/
theorem lc_is {α β : Type} {xs : List α} {enc : α → PyData} {g : α → Bool} {f : α → β} {enc' : β → PyData} {ds es : List PyData} (e : xs.map enc = ds) (h : es = ((xs.take ds.length).filter g).map fun x => enc' (f x)) : es = ((xs.filter g).map f).map enc' := by
  rw [List.map_map, ← lc_end es ⟨ds, e, h⟩]; rfl
theorem lc_is0 {α β : Type} {xs : List α} {enc : α → PyData} {f : α → β} {enc' : β → PyData} {ds es : List PyData} (e : xs.map enc = ds) (h : es = ((xs.take ds.length).filter fun _ => true).map fun x => enc' (f x)) : es = (xs.map f).map enc' := by
  rw [lc_is e h, List.filter_eq_self.mpr (fun _ _ => rfl)]
theorem pts_yes {X : Cx} {ρ : List SD} : PTs X [] (tT ρ (Eq true)) := pts_imp pts_nil fun σ H Q ⟨F, O0, O1, s, k⟩ => k true H s (Ex.refl _) rfl
end
end PL

namespace PL
open PySem PySem.Spec PyProof.Rows L2

/-! ## statements -/
/-- what is wanted behind a statement, by the slots -/
structure Po where
  nx : List SD → Prop
  rt : PyData → List SD → Prop
  bk : List SD → Prop := fun _ => False
  ct : List SD → Prop := fun _ => False
def tS (ρ : List SD) (P : Po) : TS := fun D σ H => ∃ F O0 O1, SA F O0 O1 ρ σ H ∧
  (∀ ρ' O1' σ' H', P.nx ρ' → SA F O0 O1' ρ' σ' H' → D.nx σ' H') ∧
  (∀ v d ρ' O1' σ' H', P.rt d ρ' → SA F O0 O1' ρ' σ' H' → Rp (msk (O1' ++ O0) H') v d → D.rt v H') ∧
  (∀ ρ' O1' σ' H', P.bk ρ' → SA F O0 O1' ρ' σ' H' → D.bk σ' H') ∧
  (∀ ρ' O1' σ' H', P.ct ρ' → SA F O0 O1' ρ' σ' H' → D.ct σ' H')
abbrev HS (X : Cx) (st : Stmt) (ρ : List SD) (P : Po) : Prop := PS X st (tS ρ P)
abbrev HSs (X : Cx) (sts : List Stmt) (ρ : List SD) (P : Po) : Prop := PSs X sts (tS ρ P)
abbrev Po.to (P : Po) (M : List SD → Prop) : Po := { P with nx := M }
section
variable {X : Cx} {ρ ρ1 : List SD} {P P' : Po} {st : Stmt} {rest A B : List Stmt} {e c : Expr} {d : PyData} {D : PyData → Prop} {pos pos' : Pos} {x : Str} {i : Nat} {M : List SD → Prop}
theorem hs_post (h : HSs X rest ρ P) (h1 : ∀ r, P.nx r → P'.nx r) (h2 : ∀ d r, P.rt d r → P'.rt d r) (h3 : ∀ r, P.bk r → P'.bk r) (h4 : ∀ r, P.ct r → P'.ct r) : HSs X rest ρ P' :=
  pss_imp h fun D σ H ⟨F, O0, O1, s, a, b, k, t⟩ => ⟨F, O0, O1, s, fun r O σ' H' q => a r O σ' H' (h1 r q), fun v d r O σ' H' q => b v d r O σ' H' (h2 d r q), fun r O σ' H' q => k r O σ' H' (h3 r q), fun r O σ' H' q => t r O σ' H' (h4 r q)⟩
theorem hs_nil (h : P.nx ρ) : HSs X [] ρ P := pss_imp pss_nil fun D σ H ⟨F, O0, O1, s, a, b, k, t⟩ => a ρ O1 σ H h s
theorem hs_cons (h : HS X st ρ (P.to M)) (k : ∀ r, M r → HSs X rest r P) : HSs X (st :: rest) ρ P :=
  pss_imp (pss_cons h (pss_any k)) fun D σ H ⟨F, O0, O1, s, a, b, k, t⟩ => ⟨F, O0, O1, s, fun r O σ' H' q s' => ⟨r, q, F, O0, O, s', a, b, k, t⟩, b, k, t⟩
theorem hs_one (h : HS X st ρ P) : HSs X [st] ρ P := pss_one h
/-- slots forgotten -/
theorem hs_wipe (js : List Nat) (h : HSs X rest (wipeD ρ js) P) (hp : js.all (plainAt ρ) = true := by rfl) : HSs X rest ρ P :=
  ⟨fun pins s σ H D I ⟨F, O0, O1, st, q⟩ => by
    have st' := st.wipe fun i hi => List.all_eq_true.mp hp i hi
    have hl : (L2.wipe σ js).length = σ.length := wipe_length σ js
    exact h.run pins s (L2.wipe σ js) H D (I.weak hl fun j v e => (wipe_some e).1) ⟨F, O0, O1, st', q⟩⟩
theorem hs_nilW (js : List Nat) (h : P.nx (wipeD ρ js)) (hp : js.all (plainAt ρ) = true := by rfl) : HSs X [] ρ P := hs_wipe js (hs_nil h) hp
theorem hs_retN (he : EvN X ρ e D) (h : ∀ d, D d → P.rt d ρ) : HSs X (.Return (some e) pos :: rest) ρ P :=
  hs_cons (M := fun _ => False) (ps_imp (ps_ret he) fun Dn σ H ⟨F, O0, O1, s, a, b, k, t⟩ => ⟨F, O0, O1, s, fun v d H' s' e' hd r => b v d ρ O1 σ H' (h d hd) s' r⟩) fun _ z => z.elim
theorem hs_ret (he : Ev X ρ e d) (h : P.rt d ρ) : HSs X (.Return (some e) pos :: rest) ρ P := hs_retN he fun d' e' => by subst e'; exact h
theorem hs_setN (hN : X.N.Nodup) (hi : X.N[i]? = some x) (hx : Loc X.env.scope x) (hp : plainAt ρ i = true) (he : EvN X ρ e D) (k : ∀ d, D d → HSs X rest (ρ.set i (.dat d)) P) (hs : swapsWith e (some (.Name x pos')) pos.line X.env = pure false := by rfl)
    (hf : X.fn x = true ∨ X.env.scope.names.lookup x = some .local := by first | exact .inl rfl | exact .inr rfl | assumption) : HSs X (.Assign [.Name x pos'] e pos :: rest) ρ P :=
  hs_cons (M := fun r => ∃ d, D d ∧ r = ρ.set i (.dat d)) (ps_imp (ps_set hN hi hx he hs hf) fun Dn σ H ⟨F, O0, O1, s, a, b, k, t⟩ => ⟨F, O0, O1, s, fun v d H' s' e' hd r => a _ O1 _ H' ⟨d, hd, rfl⟩ (s'.set hp r)⟩) fun r ⟨d, hd, z⟩ => by subst z; exact k d hd
theorem hs_set (hN : X.N.Nodup) (hi : X.N[i]? = some x) (hx : Loc X.env.scope x) (hp : plainAt ρ i = true) (he : Ev X ρ e d) (k : HSs X rest (ρ.set i (.dat d)) P) (hs : swapsWith e (some (.Name x pos')) pos.line X.env = pure false := by rfl)
    (hf : X.fn x = true ∨ X.env.scope.names.lookup x = some .local := by first | exact .inl rfl | exact .inr rfl | assumption) : HSs X (.Assign [.Name x pos'] e pos :: rest) ρ P :=
  hs_setN hN hi hx hp he (fun d' e' => by subst e'; exact k) hs hf
theorem hs_dropN (he : EvN X ρ e D) (k : HSs X rest ρ P) (hs : swapsWith e none pos.line X.env = pure false := by rfl) : HSs X (.Expr e pos :: rest) ρ P :=
  hs_cons (M := fun r => r = ρ) (ps_imp (ps_expr he hs) fun Dn σ H ⟨F, O0, O1, s, a, b, k, t⟩ => ⟨F, O0, O1, s, fun v d H' s' e' hd r => a _ O1 _ H' rfl s'⟩) fun r z => by subst z; exact k
theorem hs_if {b : Bool} (M : List SD → Prop) (hc : EvT X ρ c b) (h1 : b = true → HSs X A ρ (P.to M)) (h2 : b = false → HSs X B ρ (P.to M)) (k : ∀ r, M r → HSs X rest r P) : HSs X (.If c A B pos :: rest) ρ P := by
  refine hs_cons (M := M) ?_ k
  cases b with
  | true =>
    refine ⟨fun pins s σ H D I ⟨F, O0, O1, st, q⟩ => ?_⟩
    refine wpAny_If (thn (hc.run pins s σ H (fun b H' => b = true ∧ tS ρ (P.to M) D σ H') I ⟨F, O0, O1, st, fun b H' s' e' hd => ⟨hd.symm, F, O0, O1, s', q⟩⟩) fun z s1 ⟨H1, I1, q1⟩ => ?_)
    obtain ⟨rfl, q1⟩ := q1
    exact (h1 rfl).run pins s1 σ H1 D I1 q1
  | false =>
    refine ⟨fun pins s σ H D I ⟨F, O0, O1, st, q⟩ => ?_⟩
    refine wpAny_If (thn (hc.run pins s σ H (fun b H' => b = false ∧ tS ρ (P.to M) D σ H') I ⟨F, O0, O1, st, fun b H' s' e' hd => ⟨hd.symm, F, O0, O1, s', q⟩⟩) fun z s1 ⟨H1, I1, q1⟩ => ?_)
    obtain ⟨rfl, q1⟩ := q1
    exact (h2 rfl).run pins s1 σ H1 D I1 q1
/-- an if whose answer is open -/
theorem hs_ifN {Bp : Bool → Prop} (M : List SD → Prop) (hc : PT X c (tT ρ Bp)) (h1 : Bp true → HSs X A ρ (P.to M)) (h2 : Bp false → HSs X B ρ (P.to M)) (k : ∀ r, M r → HSs X rest r P) : HSs X (.If c A B pos :: rest) ρ P := by
  refine hs_cons (M := M) ?_ k
  refine ⟨fun pins s σ H D I ⟨F, O0, O1, st, q⟩ => ?_⟩
  refine wpAny_If (thn (hc.run pins s σ H (fun b H' => Bp b ∧ tS ρ (P.to M) D σ H') I ⟨F, O0, O1, st, fun b H' s' e' hd => ⟨hd, F, O0, O1, s', q⟩⟩) fun z s1 ⟨H1, I1, q1⟩ => ?_)
  obtain ⟨hz, q1⟩ := q1
  cases z with
  | true => exact (h1 hz).run pins s1 σ H1 D I1 q1
  | false => exact (h2 hz).run pins s1 σ H1 D I1 q1
/-- an if that leaves -/
theorem hs_if0 {b : Bool} (hc : EvT X ρ c b) (h1 : b = true → HSs X A ρ (P.to fun _ => False)) (k : b = false → HSs X rest ρ P) : HSs X (.If c A [] pos :: rest) ρ P := by
  cases b with
  | true => exact hs_if (b := true) (fun r => False) hc h1 (fun z => nomatch z) fun r z => z.elim
  | false => exact hs_if (b := false) (fun r => r = ρ) hc (fun z => nomatch z) (fun _ => hs_nil rfl) fun r z => by subst z; exact k rfl
theorem hs_pass (k : HSs X rest ρ P) : HSs X (.Pass pos :: rest) ρ P := hs_cons (M := (· = ρ)) (ps_imp ps_pass fun D σ H ⟨F, O0, O1, s, a, b, k, t⟩ => a ρ O1 σ H rfl s) fun r z => by subst z; exact k
theorem hs_break (h : P.bk ρ) : HSs X (.Break pos :: rest) ρ P := hs_cons (M := fun _ => False) (ps_imp ps_break fun D σ H ⟨F, O0, O1, s, a, b, k, t⟩ => k ρ O1 σ H h s) fun r z => z.elim
theorem hs_continue (h : P.ct ρ) : HSs X (.Continue pos :: rest) ρ P := hs_cons (M := fun _ => False) (ps_imp ps_continue fun D σ H ⟨F, O0, O1, s, a, b, k, t⟩ => t ρ O1 σ H h s) fun r z => z.elim
end

/-! ## for -/
theorem SA.frame {F F' H : Hp} {O0 O1 : List Addr} {ρ : List SD} {σ : Sg} (s : SA F' O0 O1 ρ σ H) (e : Ex F F') : SA F O0 O1 ρ σ H :=
  ⟨e.trans s.fr, s.sl, fun a ha => ⟨(by
    cases w : F a with
    | none => rfl
    | some o =>
      have h := (s.new a ha).1
      rw [e a o w] at h
      cases h), (s.new a ha).2⟩, s.al0⟩
section
variable {X : Cx} {ρ : List SD} {P : Po} {rest body : List Stmt} {tg iter : Expr} {pos : Pos}
theorem hs_for {E : List PyData → Prop} (Iv : List PyData → Nat → List SD → Prop) (Bk : List SD → Prop) (hp : PassesOwn (model X.prog X.w) X.A X.env X.xe) (hc : X.calm = true) (hi : EvIN X ρ tg iter E) (h0 : ∀ ds, E ds → Iv ds 0 ρ)
    (hb : ∀ ds (i : Nat) d ρ1, E ds → ds[i]? = some d → Iv ds i ρ1 → ∃ ρ2 js, EvG X tg ρ1 d ρ2 js ∧ HSs X body ρ2 { nx := Iv ds (i + 1), rt := P.rt, bk := Bk, ct := Iv ds (i + 1) })
    (hd : ∀ ds ρ1, E ds → Iv ds ds.length ρ1 → HSs X rest ρ1 P) (hk : ∀ ρ1, Bk ρ1 → HSs X rest ρ1 P) (hs : ∀ x, foldedSetIterable iter X.env x = pure x := by intro _; rfl) :
    HSs X (.For tg iter body [] pos :: rest) ρ P := by
  refine hs_cons (M := fun r => (∃ ds, E ds ∧ Iv ds ds.length r) ∨ Bk r) ?_ fun r z => z.elim (fun ⟨ds, h1, h2⟩ => hd ds r h1 h2) (hk r)
  have gA : PG X tg (fun v σ H Q => ∃ a : List SD × PyData × List SD × List Nat, EvG X tg a.1 a.2.1 a.2.2.1 a.2.2.2 ∧ tG a.1 a.2.1 a.2.2.1 a.2.2.2 v σ H Q) := pg_any fun a ha => ha
  have bA : PSs X body (fun D σ H => ∃ a : List SD × Po, HSs X body a.1 a.2 ∧ tS a.1 a.2 D σ H) := pss_any fun a ha => ha
  refine ps_imp (ps_for hp hc hi gA bA hs) fun D σ H ⟨F, O0, O1, s, nx, rt, bk, ct⟩ => ⟨F, O0, O1, s, fun ds J H1 s1 e1 hE hl wk => ?_⟩
  have eF : Ex F (msk O1 H1) := fun a o h => by
    rw [msk_out fun z => by rw [(s1.new a z).1] at h; cases h]
    exact s1.fr a o h
  have eZ : Ex (msk (O1 ++ O0) H1) (msk O1 H1) := Ex.mskSub fun a ha => List.mem_append_left _ ha
  refine ⟨fun i m σ H => m = ds.length - i ∧ i ≤ ds.length ∧ ∃ ρ1 O, Iv ds i ρ1 ∧ SA (msk O1 H1) O0 O ρ1 σ H, ⟨ds.length, by simp, Nat.zero_le _, ρ, O1, h0 ds hE, ⟨Ex.unmsk, s1.sl, fun a ha => ⟨msk_in ha, (s1.new a ha).2⟩, s1.al0⟩⟩, ?_⟩
  rintro i m σ2 H2 ⟨rfl, hi2, ρ1, O, iv, s2⟩
  obtain ⟨wgo, wstop⟩ := wk i H2 (eZ.trans s2.fr)
  by_cases hlt : i < ds.length
  · have hdi : ds[i]? = some ds[i] := List.getElem?_eq_getElem hlt
    obtain ⟨go, yl⟩ := wgo _ hdi
    obtain ⟨ρ2, js, hg, hB⟩ := hb ds i _ ρ1 hE hdi iv
    refine .inr ⟨go, fun σ' H' => ∃ ρ1 O, Iv ds (i + 1) ρ1 ∧ SA (msk O1 H1) O0 O ρ1 σ' H', fun σ' H' hN' => ⟨ds.length - (i + 1), by omega, rfl, hlt, hN'⟩, fun x H3 y => ?_⟩
    obtain ⟨e3, rx⟩ := yl x H3 y
    have s3 := s2.ex e3
    have rx' := rx (O ++ O0) s2.al fun a ha => by
      rcases List.mem_append.mp ha with z | z
      · have h := (s2.new a z).1
        by_cases c : a ∈ O1 ++ O0
        · exact msk_in c
        · rw [msk_out fun w => c (List.mem_append_left _ w)] at h
          rw [msk_out c]; exact h
      · exact msk_in (List.mem_append_right _ z)
    refine ⟨(ρ1, ds[i], ρ2, js), hg, msk O1 H1, O0, O, s3, rx', fun σ4 w4 s4 => ?_⟩
    refine ⟨(ρ2, _), hB, msk O1 H1, O0, O, s4, fun ρ' O' σ' H' q s' => ⟨ρ', O', q, s'⟩, fun v d ρ' O' σ' H' q s' r => rt v d ρ' O' σ' H' q (s'.frame eF) r, fun ρ' O' σ' H' q s' => nx ρ' O' σ' H' (.inr q) (s'.frame eF), fun ρ' O' σ' H' q s' => ⟨ρ', O', q, s'⟩⟩
  · have ei : i = ds.length := by omega
    subst ei
    exact .inl ⟨wstop (Nat.le_refl _), nx ρ1 O σ2 H2 (.inl ⟨ds, hE, iv⟩) (s2.frame eF)⟩
end

/-! ## a def's own lists -/
theorem msk_congr {O O' : List Addr} (h : ∀ a, a ∈ O ↔ a ∈ O') (H : Hp) : msk O H = msk O' H := by
  funext a
  by_cases c : a ∈ O
  · rw [msk_in c, msk_in ((h a).mp c)]
  · rw [msk_out c, msk_out fun z => c ((h a).mpr z)]
section
variable {Hm H : Hp}
theorem Sl.setOwn {p : Addr} {xs : List V} {ds : List PyData} (hp : H p = some (.lst xs)) (hl : ds.length ≤ big) (hr : RpA Hm xs ds) : ∀ {ρ : List SD} {σ : Sg} {as : List Addr} {i : Nat}, Sl Hm H ρ σ as → plainAt ρ i = true → p ∉ as →
    ∃ as', Sl Hm H (ρ.set i (.own ds)) (σ.set i (some (.ref p))) as' ∧ ∀ a, a ∈ as' ↔ a = p ∨ a ∈ as
  | [], _, _, i, _, h, _ => by simp [plainAt] at h
  | s :: ρ, σ, as, 0, h, pl, hn => by
    obtain ⟨x, r, rfl, h1, _⟩ := h.split pl
    exact ⟨p :: as, .own hp hl hr hn h1, fun a => List.mem_cons⟩
  | s :: ρ, σ, as, i + 1, h, pl, hn => by
    have pl' : plainAt ρ i = true := by simpa [plainAt] using pl
    cases h with
    | un h1 =>
      obtain ⟨as', h2, m⟩ := Sl.setOwn hp hl hr h1 pl' hn
      exact ⟨as', .un h2, m⟩
    | dat r h1 =>
      obtain ⟨as', h2, m⟩ := Sl.setOwn hp hl hr h1 pl' hn
      exact ⟨as', .dat r h2, m⟩
    | own a1 a2 a3 a4 h1 =>
      obtain ⟨as', h2, m⟩ := Sl.setOwn hp hl hr h1 pl' fun z => hn (List.mem_cons_of_mem _ z)
      refine ⟨_ :: as', .own a1 a2 a3 (fun z => ?_) h2, fun b => ?_⟩
      · rcases (m _).mp z with e | e
        · exact hn (by rw [← e]; exact List.mem_cons_self)
        · exact a4 e
      · rw [List.mem_cons, List.mem_cons, m b]
        exact ⟨fun z => z.elim (fun e => .inr (.inl e)) fun z => z.elim .inl fun z => .inr (.inr z), fun z => z.elim (fun e => .inr (.inl e)) fun z => z.elim .inl fun z => .inr (.inr z)⟩
    | mt a1 a2 h1 =>
      rename_i bs v m'
      obtain ⟨as', h2, m⟩ := Sl.setOwn hp hl hr h1 pl' fun z => hn (List.mem_append_right _ z)
      refine ⟨_ ++ as', .mt a1 (fun a ha z => ?_) h2, fun b => ?_⟩
      · rcases (m _).mp z with e | e
        · exact hn (by rw [← e]; exact List.mem_append_left _ ha)
        · exact a2 a ha e
      · rw [List.mem_append, List.mem_append, m b]
        exact ⟨fun z => z.elim (fun e => .inr (.inl e)) fun z => z.elim .inl fun z => .inr (.inr z), fun z => z.elim (fun e => .inr (.inl e)) fun z => z.elim .inl fun z => .inr (.inr z)⟩
/-- what is known of an own list; its change -/
theorem Sl.getOwn : ∀ {ρ : List SD} {σ : Sg} {as : List Addr} {i : Nat} {ds : List PyData}, Sl Hm H ρ σ as → ρ[i]? = some (.own ds) →
    ∃ a xs, σ[i]? = some (some (.ref a)) ∧ a ∈ as ∧ H a = some (.lst xs) ∧ ds.length ≤ big ∧ RpA Hm xs ds ∧
      (∀ (H' : Hp) xs' ds', H' a = some (.lst xs') → ds'.length ≤ big → RpA Hm xs' ds' → (∀ b, b ≠ a → H' b = H b) → Sl Hm H' (ρ.set i (.own ds')) σ as) ∧
      ∀ Hm', Ex Hm Hm' → Hm' a = some (.lst xs) → ∃ as', Sl Hm' H (ρ.set i (.dat (.list ds))) σ as' ∧ a ∉ as' ∧ ∀ b, b ∈ as ↔ b = a ∨ b ∈ as'
  | [], _, _, i, _, _, h => by simp at h
  | s :: ρ, σ, as, 0, ds, h, e => by
    have e' : s = .own ds := Option.some.inj e
    subst e'
    cases h with
    | own a1 a2 a3 a4 h1 =>
      refine ⟨_, _, rfl, List.mem_cons_self, a1, a2, a3, fun H' xs' ds' q1 q2 q3 q4 => ?_, fun Hm' em q => ?_⟩
      · exact .own q1 q2 q3 a4 (h1.mono (Ex.refl _) fun b hb => q4 b fun z => a4 (by rw [← z]; exact hb))
      · exact ⟨_, .dat (.lst q a2 (a3.mono em)) (h1.mono em fun _ _ => rfl), a4, fun b => List.mem_cons⟩
  | s :: ρ, σ, as, i + 1, ds, h, e => by
    have e' : ρ[i]? = some (.own ds) := by simpa using e
    cases h with
    | un h1 =>
      obtain ⟨a, xs, q1, q2, q3, q4, q5, q6, q7⟩ := Sl.getOwn h1 e'
      refine ⟨a, xs, by simpa using q1, q2, q3, q4, q5, fun H' xs' ds' z1 z2 z3 z4 => .un (q6 H' xs' ds' z1 z2 z3 z4), fun Hm' em q => ?_⟩
      obtain ⟨as', w1, w2, w3⟩ := q7 Hm' em q
      exact ⟨as', .un w1, w2, w3⟩
    | dat r h1 =>
      obtain ⟨a, xs, q1, q2, q3, q4, q5, q6, q7⟩ := Sl.getOwn h1 e'
      refine ⟨a, xs, by simpa using q1, q2, q3, q4, q5, fun H' xs' ds' z1 z2 z3 z4 => .dat r (q6 H' xs' ds' z1 z2 z3 z4), fun Hm' em q => ?_⟩
      obtain ⟨as', w1, w2, w3⟩ := q7 Hm' em q
      exact ⟨as', .dat (r.mono em) w1, w2, w3⟩
    | own a1 a2 a3 a4 h1 =>
      rename_i a0 xs0 ds0
      obtain ⟨a, xs, q1, q2, q3, q4, q5, q6, q7⟩ := Sl.getOwn h1 e'
      have ne : a0 ≠ a := fun z => a4 (by rw [z]; exact q2)
      refine ⟨a, xs, by simpa using q1, List.mem_cons_of_mem _ q2, q3, q4, q5, fun H' xs' ds' z1 z2 z3 z4 => .own (by rw [z4 _ ne]; exact a1) a2 a3 a4 (q6 H' xs' ds' z1 z2 z3 z4), fun Hm' em q => ?_⟩
      obtain ⟨as', w1, w2, w3⟩ := q7 Hm' em q
      refine ⟨a0 :: as', .own a1 a2 (a3.mono em) (fun z => a4 ((w3 _).mpr (.inr z))) w1, fun z => ?_, fun b => ?_⟩
      · rcases List.mem_cons.mp z with z | z
        · exact ne z.symm
        · exact w2 z
      · rw [List.mem_cons, List.mem_cons, w3 b]
        exact ⟨fun z => z.elim (fun e => .inr (.inl e)) fun z => z.elim .inl fun z => .inr (.inr z), fun z => z.elim (fun e => .inr (.inl e)) fun z => z.elim .inl fun z => .inr (.inr z)⟩
    | mt a1 a2 h1 =>
      rename_i bs v m
      obtain ⟨a, xs, q1, q2, q3, q4, q5, q6, q7⟩ := Sl.getOwn h1 e'
      have ne : ∀ b ∈ m.fp, b ≠ a := fun b hb z => a2 b hb (by rw [z]; exact q2)
      refine ⟨a, xs, by simpa using q1, List.mem_append_right _ q2, q3, q4, q5, fun H' xs' ds' z1 z2 z3 z4 => .mt (m.mono a1 (Ex.refl _) fun b hb => z4 b (ne b hb)) a2 (q6 H' xs' ds' z1 z2 z3 z4), fun Hm' em q => ?_⟩
      obtain ⟨as', w1, w2, w3⟩ := q7 Hm' em q
      refine ⟨m.fp ++ as', .mt (m.mono a1 em fun _ _ => rfl) (fun b hb z => a2 b hb ((w3 b).mpr (.inr z))) w1, fun z => ?_, fun b => ?_⟩
      · rcases List.mem_append.mp z with z | z
        · exact ne a z rfl
        · exact w2 z
      · rw [List.mem_append, List.mem_append, w3 b]
        exact ⟨fun z => z.elim (fun e => .inr (.inl e)) fun z => z.elim .inl fun z => .inr (.inr z), fun z => z.elim (fun e => .inr (.inl e)) fun z => z.elim .inl fun z => .inr (.inr z)⟩
end
section
variable {F H : Hp} {O0 O1 : List Addr} {ρ : List SD} {σ : Sg} {i : Nat} {ds : List PyData}
theorem SA.setOwn {p : Addr} {xs : List V} (s : SA F (p :: O0) O1 ρ σ H) (hF : F p = none) (hp : p ∉ O1 ++ O0) (hx : H p = some (.lst xs)) (hr : RpA (msk (O1 ++ p :: O0) H) xs ds) (hl : ds.length ≤ big) (pl : plainAt ρ i = true) :
    ∃ O, SA F O0 O (ρ.set i (.own ds)) (σ.set i (some (.ref p))) H := by
  obtain ⟨as', h1, m⟩ := s.sl.setOwn hx hl hr pl fun z => hp (List.mem_append_left _ z)
  have em : msk (O1 ++ p :: O0) H = msk (as' ++ O0) H := msk_congr (fun a => by
    rw [List.mem_append, List.mem_append, m a, List.mem_cons]
    exact ⟨fun z => z.elim (fun z => .inl (.inr z)) fun z => z.elim (fun z => .inl (.inl z)) .inr, fun z => z.elim (fun z => z.elim (fun z => .inr (.inl z)) .inl) fun z => .inr (.inr z)⟩) H
  rw [em] at h1
  refine ⟨as', s.fr, h1, fun a ha => ?_, fun a ha => s.al0 a (List.mem_cons_of_mem _ ha)⟩
  rcases (m a).mp ha with e | e
  · subst e; exact ⟨hF, fun z => hp (List.mem_append_right _ z)⟩
  · exact ⟨(s.new a e).1, fun z => (s.new a e).2 (List.mem_cons_of_mem _ z)⟩
theorem SA.freeze (s : SA F O0 O1 ρ σ H) (e : ρ[i]? = some (.own ds)) : ∃ O, SA F O0 O (ρ.set i (.dat (.list ds))) σ H ∧ ∀ b ∈ O, b ∈ O1 := by
  obtain ⟨a, xs, q1, q2, q3, q4, q5, q6, q7⟩ := s.sl.getOwn e
  have hO : ∀ as', (∀ b, b ∈ O1 ↔ b = a ∨ b ∈ as') → ∀ b ∈ as' ++ O0, b ∈ O1 ++ O0 := fun as' m b hb => by
    rcases List.mem_append.mp hb with z | z
    · exact List.mem_append_left _ ((m b).mpr (.inr z))
    · exact List.mem_append_right _ z
  -- the places without a
  obtain ⟨as', w1, w2, w3⟩ := q7 (msk ((O1.filter (fun b => decide (b ≠ a))) ++ O0) H) (Ex.mskSub fun b hb => by
    rcases List.mem_append.mp hb with z | z
    · exact List.mem_append_left _ (List.mem_filter.mp z).1
    · exact List.mem_append_right _ z) (by
    rw [msk_out fun z => ?_]
    · exact q3
    · rcases List.mem_append.mp z with z | z
      · exact (of_decide_eq_true (List.mem_filter.mp z).2) rfl
      · exact (s.new a q2).2 z)
  have em : msk ((O1.filter (fun b => decide (b ≠ a))) ++ O0) H = msk (as' ++ O0) H := msk_congr (fun b => by
    rw [List.mem_append, List.mem_append, List.mem_filter, w3 b, decide_eq_true_iff]
    refine ⟨fun z => z.elim (fun z => .inl (z.1.resolve_left z.2)) .inr, fun z => z.elim (fun z => .inl ⟨.inr z, fun q => w2 (by rw [← q]; exact z)⟩) .inr⟩) H
  rw [em] at w1
  exact ⟨as', ⟨s.fr, w1, fun b hb => s.new b ((w3 b).mpr (.inr hb)), s.al0⟩, fun b hb => (w3 b).mpr (.inr hb)⟩
theorem SA.updOwn (s : SA F O0 O1 ρ σ H) (e : ρ[i]? = some (.own ds)) : ∃ a xs, σ[i]? = some (some (.ref a)) ∧ H a = some (.lst xs) ∧ ds.length ≤ big ∧ RpA (msk (O1 ++ O0) H) xs ds ∧
    ∀ xs' ds', ds'.length ≤ big → RpA (msk (O1 ++ O0) H) xs' ds' → SA F O0 O1 (ρ.set i (.own ds')) σ (upd H a (.lst xs')) := by
  obtain ⟨a, xs, q1, q2, q3, q4, q5, q6, q7⟩ := s.sl.getOwn e
  refine ⟨a, xs, q1, q3, q4, q5, fun xs' ds' z1 z2 => ?_⟩
  have em : msk (O1 ++ O0) (upd H a (.lst xs')) = msk (O1 ++ O0) H := by
    funext b
    by_cases c : b ∈ O1 ++ O0
    · rw [msk_in c, msk_in c]
    · rw [msk_out c, msk_out c, upd_ne fun z => c (by rw [z]; exact List.mem_append_left _ q2)]
  refine ⟨fun b o h => ?_, by rw [em]; exact q6 _ xs' ds' upd_same z1 z2 fun b hb => upd_ne hb, s.new, fun b hb => ?_⟩
  · rw [upd_ne fun z => by rw [z, (s.new a q2).1] at h; cases h]
    exact s.fr b o h
  · rw [upd_ne fun z => (s.new a q2).2 (by rw [← z]; exact hb)]
    exact s.al0 b hb
end
/-- data without objects -/
def flatD : PyData → Bool
  | .none => true
  | .bool _ => true
  | .int _ => true
  | .str _ => true
  | _ => false
theorem Rp.flat {H H' : Hp} {v : V} {d : PyData} (r : Rp H v d) (h : flatD d = true) : Rp H' v d := by
  cases r with
  | non => exact .non
  | bl b => exact .bl b
  | int i => exact .int i
  | str x l => exact .str x l
  | lst _ _ _ => cases h
  | tup _ _ _ => cases h
/-- every own list only read -/
def frz : List SD → List SD
  | [] => []
  | .own ds :: ρ => .dat (.list ds) :: frz ρ
  | s :: ρ => s :: frz ρ
def mtsF : List SD → List Addr
  | [] => []
  | .mt m :: ρ => m.fp ++ mtsF ρ
  | _ :: ρ => mtsF ρ
/-- the things that may change do not lean on the data around them -/
def MtOk : List SD → Prop
  | [] => True
  | .mt m :: ρ => (m.fp = [] ∨ ∀ Hm Hm' H v, m.P Hm H v → m.P Hm' H v) ∧ MtOk ρ
  | _ :: ρ => MtOk ρ
theorem Sl.mtsF {Hm H : Hp} {ρ : List SD} {σ : Sg} {as : List Addr} (h : Sl Hm H ρ σ as) : ∀ a ∈ PL.mtsF ρ, a ∈ as := by
  induction h with
  | nil => intro a ha; cases ha
  | un _ ih => exact ih
  | dat _ _ ih => exact ih
  | own _ _ _ _ _ ih => exact fun a ha => List.mem_cons_of_mem _ (ih a ha)
  | mt _ _ _ ih =>
    intro a ha
    rcases List.mem_append.mp ha with z | z
    · exact List.mem_append_left _ z
    · exact List.mem_append_right _ (ih a z)
theorem Sl.frz {Hm Hm' H : Hp} {ρ : List SD} {σ : Sg} {as : List Addr} (h : Sl Hm H ρ σ as) (e : Ex Hm Hm') (k : ∀ a ∈ as, a ∉ PL.mtsF ρ → Hm' a = H a) : Sl Hm' H (PL.frz ρ) σ (PL.mtsF ρ) := by
  induction h with
  | nil => exact .nil
  | un _ ih => exact .un (ih k)
  | dat r _ ih => exact .dat (r.mono e) (ih k)
  | own h1 h2 h3 h4 h ih =>
    refine .dat (.lst ?_ h2 (h3.mono e)) (ih fun a ha hn => k a (List.mem_cons_of_mem _ ha) hn)
    rw [k _ List.mem_cons_self fun z => h4 (h.mtsF _ z)]
    exact h1
  | mt h1 h2 h ih =>
    rename_i m
    refine .mt (m.mono h1 e fun _ _ => rfl) (fun a ha z => h2 a ha (h.mtsF a z)) (ih fun a ha hn => k a (List.mem_append_right _ ha) fun z => ?_)
    rcases List.mem_append.mp z with z | z
    · exact h2 a z ha
    · exact hn z
theorem Sl.unfrz {Hm Hm' Hm2 H H' : Hp} {ρ : List SD} {σ : Sg} {as : List Addr} (h : Sl Hm H ρ σ as) (e : Ex Hm Hm') (k : ∀ a ∈ as, a ∉ PL.mtsF ρ → H' a = H a) : ∀ {as2 : List Addr}, MtOk ρ → Sl Hm2 H' (PL.frz ρ) σ as2 → Sl Hm' H' ρ σ as := by
  induction h with
  | nil => exact fun _ _ => .nil
  | un _ ih =>
    intro as2 mo h2
    cases h2 with
    | un h2 => exact .un (ih k mo h2)
  | dat r _ ih =>
    intro as2 mo h2
    cases h2 with
    | dat r2 h2 => exact .dat (r.mono e) (ih k mo h2)
  | own h1 h2 h3 h4 h ih =>
    intro as2 mo g
    cases g with
    | dat r2 g2 =>
      refine .own ?_ h2 (h3.mono e) h4 (ih (fun a ha hn => k a (List.mem_cons_of_mem _ ha) hn) mo g2)
      rw [k _ List.mem_cons_self fun z => h4 (h.mtsF _ z)]
      exact h1
  | mt h1 h2 h ih =>
    intro as2 mo g
    rename_i m
    cases g with
    | mt g1 g2 g3 =>
      refine .mt ?_ h2 (ih (fun a ha hn => k a (List.mem_append_right _ ha) fun z => ?_) mo.2 g3)
      · rcases mo.1 with q | q
        · exact m.mono h1 e fun a ha => by rw [q] at ha; cases ha
        · exact q _ _ _ _ g1
      · rcases List.mem_append.mp z with z | z
        · exact h2 a z ha
        · exact hn z
section
variable {F H H' : Hp} {O0 O1 : List Addr} {ρ : List SD} {σ : Sg}
theorem SA.frz (s : SA F O0 O1 ρ σ H) : SA F O0 (mtsF ρ) (PL.frz ρ) σ H := by
  have sub : ∀ a ∈ mtsF ρ ++ O0, a ∈ O1 ++ O0 := fun a ha => by
    rcases List.mem_append.mp ha with z | z
    · exact List.mem_append_left _ (s.sl.mtsF a z)
    · exact List.mem_append_right _ z
  refine ⟨s.fr, s.sl.frz (Ex.mskSub sub) fun a ha hn => msk_out fun z => ?_, fun a ha => s.new a (s.sl.mtsF a ha), s.al0⟩
  rcases List.mem_append.mp z with z | z
  · exact hn z
  · exact (s.new a ha).2 z
theorem SA.unfrz (s : SA F O0 O1 ρ σ H) (mo : MtOk ρ) (s' : SA F O0 (mtsF ρ) (PL.frz ρ) σ H') (e : Ex (msk (mtsF ρ ++ O0) H) (msk (mtsF ρ ++ O0) H')) : SA F O0 O1 ρ σ H' ∧ Ex (msk (O1 ++ O0) H) (msk (O1 ++ O0) H') := by
  have sub : ∀ a ∈ mtsF ρ ++ O0, a ∈ O1 ++ O0 := fun a ha => by
    rcases List.mem_append.mp ha with z | z
    · exact List.mem_append_left _ (s.sl.mtsF a z)
    · exact List.mem_append_right _ z
  have em : Ex (msk (O1 ++ O0) H) (msk (O1 ++ O0) H') := fun a o h => by
    obtain ⟨z1, z2⟩ := msk_some h
    rw [msk_out z1]
    exact (msk_some (e a o (by rw [msk_out fun w => z1 (sub a w)]; exact z2))).2
  refine ⟨⟨s'.fr, s.sl.unfrz em (fun a ha hn => ?_) mo s'.sl, s.new, s'.al0⟩, em⟩
  have nm : a ∉ mtsF ρ ++ O0 := fun z => (List.mem_append.mp z).elim hn (s.new a ha).2
  cases q : H a with
  | none => exact absurd q (s.sl.al a ha)
  | some o => exact (msk_some (e a o (by rw [msk_out nm]; exact q))).2
end
section
variable {X : Cx} {ρ : List SD} {P : Po} {rest : List Stmt} {e c : Expr} {d : PyData} {i : Nat} {ds es : List PyData} {pos pos' apos cpos epos : Pos} {x : Str} {D : PyData → Prop}
/-- an expression that reads own lists and gives a flat thing -/
theorem evn_own (mo : MtOk ρ) (h : EvN X (frz ρ) e D) (hf : ∀ d, D d → flatD d = true) : EvN X ρ e D := pe_imp h fun σ H Q ⟨F, O0, O1, s, k⟩ => ⟨F, O0, mtsF ρ, s.frz, fun v d H' s' e' hd r => by
  obtain ⟨s2, em⟩ := s.unfrz mo s' e'
  exact k v d H' s2 em hd (r.flat (hf d hd))⟩
theorem ev_own (mo : MtOk ρ) (h : Ev X (frz ρ) e d) (hf : flatD d = true) : Ev X ρ e d := evn_own mo h fun d' e' => by subst e'; exact hf
theorem et_own {b : Bool} (mo : MtOk ρ) (h : EvT X (frz ρ) e b) : EvT X ρ e b := pt_imp h fun σ H Q ⟨F, O0, O1, s, k⟩ => ⟨F, O0, mtsF ρ, s.frz, fun b H' s' e' hd => by
  obtain ⟨s2, em⟩ := s.unfrz mo s' e'
  exact k b H' s2 em hd⟩
/-- an own list is owned no more -/
theorem hs_freeze (i : Nat) (he : ρ[i]? = some (.own ds)) (h : HSs X rest (ρ.set i (.dat (.list ds))) P) : HSs X rest ρ P := pss_imp h fun D σ H ⟨F, O0, O1, s, q⟩ => by
  obtain ⟨O, s', _⟩ := s.freeze he
  exact ⟨F, O0, O, s', q⟩
/-- a new list, owned -/
theorem hs_setF {E : List PyData → Prop} (hN : X.N.Nodup) (hi : X.N[i]? = some x) (hx : Loc X.env.scope x) (hp : plainAt ρ i = true) (he : EvF X ρ e E) (k : ∀ ds, E ds → HSs X rest (ρ.set i (.own ds)) P) (hs : swapsWith e (some (.Name x pos')) pos.line X.env = pure false := by rfl)
    (hf : X.fn x = true ∨ X.env.scope.names.lookup x = some .local := by first | exact .inl rfl | exact .inr rfl | assumption) : HSs X (.Assign [.Name x pos'] e pos :: rest) ρ P :=
  hs_cons (M := fun r => ∃ ds, E ds ∧ r = ρ.set i (.own ds)) (ps_imp (ps_set hN hi hx he hs hf) fun Dn σ H ⟨F, O0, O1, s, a, b, k, t⟩ => ⟨F, O0, O1, s, fun p xs ds H' s' hF hn hx hr hl hE em => by
    obtain ⟨O, s2⟩ := s'.setOwn hF hn hx hr hl hp
    exact a _ O _ H' ⟨ds, hE, rfl⟩ s2⟩) fun r ⟨ds, hE, z⟩ => by subst z; exact k ds hE
/-- name = [.. for ..]: data, owned -/
theorem hs_setLcO {elt tg iter : Expr} {ifs : List Expr} {scope : Scope} {own : List (Str × Nat)} {E : List PyData → Prop} {B G ρ' Pv} (hc : X.calm = true) (hN : X.N.Nodup) (hy : X.N[i]? = some x) (hyl : X.env.scope.names.lookup x = some .local) (hp : plainAt ρ i = true)
    (hsw : swapsWith (.ListComp elt [⟨tg, iter, ifs, 0⟩] scope pos) (some (.Name x pos')) epos.line X.env = pure true) (L : Lc X ρ elt tg iter ifs scope own E B G ρ' Pv)
    (k : ∀ ds es, E ds → Pv ds ds.length es → HSs X rest (ρ.set i (.own es)) P) (hs : ∀ x, foldedSetIterable iter X.env x = pure x := by intro _; rfl) :
    HSs X (.Assign [.Name x pos'] (.ListComp elt [⟨tg, iter, ifs, 0⟩] scope pos) epos :: rest) ρ P :=
  hs_cons (M := fun r => ∃ ds es, E ds ∧ Pv ds ds.length es ∧ r = ρ.set i (.own es)) (ps_imp (ps_setLc hc hN hy hyl hsw L.hi L.ok L.gA L.tA L.eA hs) fun Dn σ H ⟨F, O0, O1, s, a, b, k, t⟩ => L.rd σ H _ ⟨F, O0, O1, s, fun p xs ds H' s' hF hn hx hr hl ⟨ds0, hE, hP⟩ em => by
    obtain ⟨O, s2⟩ := s'.setOwn hF hn hx hr hl hp
    exact a _ O _ H' ⟨ds0, ds, hE, hP, rfl⟩ s2⟩) fun r ⟨ds, es, hE, hP, z⟩ => by subst z; exact k ds es hE hP
theorem hs_setLc {elt tg iter : Expr} {ifs : List Expr} {scope : Scope} {own : List (Str × Nat)} {E : List PyData → Prop} {B G ρ' Pv} (hc : X.calm = true) (hN : X.N.Nodup) (hy : X.N[i]? = some x) (hyl : X.env.scope.names.lookup x = some .local) (hp : plainAt ρ i = true)
    (hsw : swapsWith (.ListComp elt [⟨tg, iter, ifs, 0⟩] scope pos) (some (.Name x pos')) epos.line X.env = pure true) (L : Lc X ρ elt tg iter ifs scope own E B G ρ' Pv)
    (k : ∀ ds es, E ds → Pv ds ds.length es → HSs X rest (ρ.set i (.dat (.list es))) P) (hs : ∀ x, foldedSetIterable iter X.env x = pure x := by intro _; rfl) :
    HSs X (.Assign [.Name x pos'] (.ListComp elt [⟨tg, iter, ifs, 0⟩] scope pos) epos :: rest) ρ P :=
  hs_cons (M := fun r => ∃ ds es, E ds ∧ Pv ds ds.length es ∧ r = ρ.set i (.dat (.list es))) (ps_imp (ps_setLc hc hN hy hyl hsw L.hi L.ok L.gA L.tA L.eA hs) fun Dn σ H ⟨F, O0, O1, s, a, b, k, t⟩ => L.rd σ H _ ⟨F, O0, O1, s, fun p xs ds H' s' hF hn hx hr hl ⟨ds0, hE, hP⟩ em =>
    a _ O1 _ H' ⟨ds0, ds, hE, hP, rfl⟩ (s'.unmask.set hp (.lst (by rw [msk_out hn]; exact hx) hl (hr.mono (Ex.mskSub sub_cons))))⟩) fun r ⟨ds, es, hE, hP, z⟩ => by subst z; exact k ds es hE hP
/-- name.append(e) -/
theorem hs_appendN (hN : X.N[i]? = some x) (hv : Vis X.env.scope x) (ho : ρ[i]? = some (.own ds)) (he : EvN X ρ e D) (hl : ds.length + 1 ≤ big) (k : ∀ d, D d → HSs X rest (ρ.set i (.own (ds ++ [d]))) P)
    (h1 : (x == ("__debug__" : Str)) = false := by decide) (h2 : (x == ("__classdict__" : Str)) = false := by decide)
    (b1 : attributeBase (.Name x pos) "append" X.env (eval (.Name x pos) X.env) = eval (.Name x pos) X.env := by rfl)
    (b2 : (((backTo cpos (starEach [e] X.env)).all fun z => !z.fst) && (backToKw cpos (keywordEach [] X.env)).all (fun z => z.fst.isSome) && decide ([e].length + ([] : List Keyword).length + (if ([] : List Keyword).isEmpty = true then 0 else 1) < 30)) = true := by rfl)
    (b3 : (apos.endLine == cpos.line) = true := by rfl) (b4 : starEach [e] X.env = (false, eval e X.env) :: starEach [] X.env := by rfl) (b5 : (backTo cpos (starEach [] X.env)).any (fun z => z.fst) = false := by rfl)
    (hs : swapsWith (.Call (.Attribute (.Name x pos) "append" apos) [e] [] cpos) none epos.line X.env = pure false := by rfl) :
    HSs X (.Expr (.Call (.Attribute (.Name x pos) "append" apos) [e] [] cpos) epos :: rest) ρ P :=
  hs_cons (M := fun r => ∃ d, D d ∧ r = ρ.set i (.own (ds ++ [d]))) (ps_imp (ps_expr (pe_bm PySem.F.plainAttrs_list PySem.F.slot_list_append PySem.F.type_list_append mt_append (pe_var hN hv h1 h2) (pa_cons he pa_nil b4) b1 b2 b3 b4 b5) hs) fun Dn σ H ⟨F, O0, O1, s, a, b, k, t⟩ => by
    obtain ⟨p, xs, q1, q2, q3, q4, q5⟩ := s.updOwn ho
    refine ⟨.ref p, q1, .inl ⟨rfl, xs, SqL.of q2⟩, F, O0, O1, s, fun v d H' s' em hd r => ?_⟩
    obtain ⟨p', xs', z1, z2, z3, z4, z5⟩ := s'.updOwn ho
    rw [q1] at z1
    cases z1
    refine ⟨p, xs', v, rfl, rfl, z2, ?_, a _ O1 σ _ ⟨d, hd, rfl⟩ (z5 _ _ (by rw [List.length_append]; exact hl) (z4.append (.cons r .nil)))⟩
    rw [z4.len]
    exact Nat.lt_of_lt_of_le (Nat.lt_succ_self _) (le_line hl)) fun r ⟨d, hd, z⟩ => by subst z; exact k d hd
/-- name.extend(a list) -/
theorem hs_extend (hN : X.N[i]? = some x) (hv : Vis X.env.scope x) (ho : ρ[i]? = some (.own ds)) (he : Ev X ρ e (.list es)) (hl : ds.length + es.length ≤ big) (k : HSs X rest (ρ.set i (.own (ds ++ es))) P)
    (h1 : (x == ("__debug__" : Str)) = false := by decide) (h2 : (x == ("__classdict__" : Str)) = false := by decide)
    (b1 : attributeBase (.Name x pos) "extend" X.env (eval (.Name x pos) X.env) = eval (.Name x pos) X.env := by rfl)
    (b2 : (((backTo cpos (starEach [e] X.env)).all fun z => !z.fst) && (backToKw cpos (keywordEach [] X.env)).all (fun z => z.fst.isSome) && decide ([e].length + ([] : List Keyword).length + (if ([] : List Keyword).isEmpty = true then 0 else 1) < 30)) = true := by rfl)
    (b3 : (apos.endLine == cpos.line) = true := by rfl) (b4 : starEach [e] X.env = (false, eval e X.env) :: starEach [] X.env := by rfl) (b5 : (backTo cpos (starEach [] X.env)).any (fun z => z.fst) = false := by rfl)
    (hs : swapsWith (.Call (.Attribute (.Name x pos) "extend" apos) [e] [] cpos) none epos.line X.env = pure false := by rfl) :
    HSs X (.Expr (.Call (.Attribute (.Name x pos) "extend" apos) [e] [] cpos) epos :: rest) ρ P :=
  hs_cons (M := fun r => r = ρ.set i (.own (ds ++ es))) (ps_imp (ps_expr (pe_bm PySem.F.plainAttrs_list PySem.F.slot_list_extend PySem.F.type_list_extend mt_extend (pe_var hN hv h1 h2) (pa_cons he pa_nil b4) b1 b2 b3 b4 b5) hs) fun Dn σ H ⟨F, O0, O1, s, a, b, k, t⟩ => by
    obtain ⟨p, xs, q1, q2, q3, q4, q5⟩ := s.updOwn ho
    refine ⟨.ref p, q1, .inl ⟨rfl, xs, SqL.of q2⟩, F, O0, O1, s, fun v d H' s' em hd r => ?_⟩
    subst hd
    obtain ⟨p', xs', z1, z2, z3, z4, z5⟩ := s'.updOwn ho
    rw [q1] at z1
    cases z1
    cases r with
    | lst r1 r2 r3 =>
      refine ⟨p, _, xs', _, rfl, rfl, z2, (msk_some r1).2, ?_, a _ O1 σ _ rfl (z5 _ _ (by rw [List.length_append]; exact hl) (z4.append r3))⟩
      rw [z4.len, r3.len]
      exact le_line hl) fun r z => by subst z; exact k
end

/-! ## defs and their calls -/
/-- a def's contract: what it is called with, when, what may come back -/
structure Ct where
  A : Type
  enc : A → List PyData
  pre : A → Prop
  res : A → PyData → Prop
/-- a def that changes nothing -/
def spG (C : Ct) : Sp := fun vs H Q _ => ∃ O a, C.pre a ∧ Al O H ∧ RpA (msk O H) vs (C.enc a) ∧ Kt O H (C.res a) Q
section
variable {P : Program} {w : World} {K : PySem.W.Frag} {mg : Str → Option Value} {base : Heap}
/-- how arguments are bound: some by place, the others by name -/
def Kw (fd : FuncData) (ps : List Str) : Prop := ∀ us ws : List Value, us.length + ws.length = ps.length → bindArgs fd ⟨us, (ps.drop us.length).zip ws⟩ = pure (ps.zip (us ++ ws))
theorem Kw.bd {K : PySem.W.Frag} {fd : FuncData} {ps : List Str} (h : Kw fd ps) : Binds K fd ps [] := .all fun us hl => by
  have q := h us [] (by simpa using hl)
  rw [List.zip_nil_right, List.append_nil] at q
  exact q
theorem Kw.of {fd : FuncData} {ps : List Str} (h : ∀ vs : List Value, vs.length = ps.length → ∀ m, m ≤ ps.length → bindArgs fd ⟨vs.take m, (ps.drop m).zip (vs.drop m)⟩ = pure (ps.zip vs)) : Kw fd ps := fun us ws hl => by
  have q := h (us ++ ws) (by rw [List.length_append]; exact hl) us.length (by omega)
  rw [List.take_left, List.drop_left] at q
  exact q
def kwG {α : Type} (m : Nat) (us ws : List α) : List α := if us.length = m then us ++ ws else []
theorem Kw.kb {K : PySem.W.Frag} {fd : FuncData} {ps : List Str} (h : Kw fd ps) (h0 : ps ≠ []) (m : Nat) : KBinds K fd ps (ps.drop m) (kwG m) (kwG m) := by
  refine ⟨fun s us ws _ hl => ?_, fun {vs us zs ws} r1 r2 => ?_⟩
  · by_cases e : us.length = m
    · unfold kwG at hl ⊢
      rw [if_pos e] at hl ⊢
      rw [List.length_append] at hl
      rw [← e]
      exact .of_eq (h us ws hl)
    · unfold kwG at hl
      rw [if_neg e] at hl
      cases ps with
      | nil => exact absurd rfl h0
      | cons _ _ => cases hl
  · unfold kwG
    rw [r1.length]
    split
    · exact r1.append r2
    · exact .nil
/-- a def of the text, reached by its name -/
structure DefAt (K : PySem.W.Frag) (mg : Str → Option Value) (x : Str) (st : Stmt) (ps : List Str) (f : Addr) (fd : FuncData) : Prop where
  fn : Fun K x x st f fd
  at_ : mg x = some (.ref f)
  kw : Kw fd ps
theorem DefAt.bd {K : PySem.W.Frag} {mg : Str → Option Value} {x : Str} {st : Stmt} {ps : List Str} {f : Addr} {fd : FuncData} (A : DefAt K mg x st ps f fd) : Binds K fd ps [] := A.kw.bd
def Def (P : Program) (w : World) (K : PySem.W.Frag) (mg : Str → Option Value) (base : Heap) (k : Nat) (x : Str) (ps : List Str) (C : Ct) : Prop :=
  ∃ f fd, FnOk P w K mg base CX0 k f fd ps (spG C) ∧ mg x = some (.ref f) ∧ PySem.W.keepIn K (.ref f) = true ∧ Kw fd ps
theorem Def.mono {j k : Nat} {x : Str} {ps : List Str} {C : Ct} (h : Def P w K mg base j x ps C) (l : j ≤ k) : Def P w K mg base k x ps C := by
  obtain ⟨f, fd, a, b⟩ := h
  exact ⟨f, fd, a.mono l, b⟩
theorem Sl.start {Hm H : Hp} : ∀ {vs : List V} {ds : List PyData} {n : Nat}, RpA Hm vs ds → Sl Hm H (ds.map SD.dat ++ List.replicate n SD.un) (vs.map some ++ List.replicate n none) []
  | _, [], n, h => by
    cases h
    induction n with
    | zero => exact .nil
    | succ n ih => exact .un ih
  | _, d :: ds, n, h => by
    cases h with
    | cons h1 h2 => exact .dat h1 (Sl.start h2)
theorem def_mk {x : Str} {st : Stmt} {f : Addr} {fd : FuncData} {N ps : List Str} {k : Nat} {C : Ct} (A : DefAt K mg x st ps f fd) (S : FnScope N ps (defScope st)) (hl : ∀ a, (C.enc a).length = ps.length)
    (body : ∀ a, C.pre a → ∀ (cdv : Value) (A : Around) (outer : List Env) (s : Shared) (H : Hp) (E : XK), Room k (A.deeper (envOfC x (defScope st) s.heap.objs.size f cdv)) →
      HSs (cxOf CX0 P w K mg base N x (defScope st) f cdv A outer s H E).nox (defBody st) ((C.enc a).map SD.dat ++ List.replicate (N.length - (C.enc a).length) SD.un) { nx := fun _ => C.res a .none, rt := fun d _ => C.res a d }) :
    Def P w K mg base (k + 1) x ps C := by
  refine ⟨f, fd, ?_, A.at_, A.fn.kp, A.kw⟩
  refine A.fn.ok S (fun vs H Q E ⟨O, ds, hp, al, r, kt⟩ => by rw [r.len]; exact hl ds) (fun cdv A outer s H vs Q E hr ⟨O, ds, hp, al, r, kt⟩ => ?_)
  refine ⟨_, body ds hp cdv A outer s H E hr, H, O, [], ⟨Ex.refl _, ?_, fun a ha => (by cases ha), al⟩, ?_, ?_, fun _ _ _ _ z => z.elim, fun _ _ _ _ z => z.elim⟩
  · unfold L2.start
    rw [r.len]
    exact Sl.start r
  · intro ρ' O1' σ' H' q s'
    exact kt .non .none H' s'.fr q .non
  · intro v d ρ' O1' σ' H' q s' r'
    exact kt v d H' s'.fr q (r'.mono (Ex.mskSub fun a ha => List.mem_append_right _ ha))
section
variable {X : Cx} {ρ : List SD} {e : Expr} {es : List Expr} {x : Str} {p pos : Pos} {k n : Nat} {ps : List Str} {C : Ct} {D : PyData → Prop} {d : PyData} {ds : List PyData}
theorem evn_call {E : List PyData → Prop} (F : Def X.prog X.w X.K X.mg X.base k x ps C) (hr : Room n X.A) (hg : Gl X x) (ha : EvAN X ρ (e :: es) E) (hG : ∀ ds, E ds → ∃ a, ds = C.enc a ∧ C.pre a ∧ ∀ d, C.res a d → D d) (hkn : k ≤ n := by decide)
    (hdb : (x == ("__debug__" : Str)) = false := by decide) (he : starEach (e :: es) X.env = (false, eval e X.env) :: starEach es X.env := by rfl) (hpl : (backTo pos (starEach es X.env)).any (·.1) = false := by rfl) : EvN X ρ (.Call (.Name x p) (e :: es) [] pos) D := by
  obtain ⟨f, fd, F1, F2, F3, F4⟩ := F
  refine pe_imp (pe_call F1 (hr.mono hkn) hg F2 F3 F4.bd .nil pass0 ha hdb he hpl) fun σ H Q ⟨F, O0, O1, s, q⟩ => ⟨F, O0, O1, s, fun vs ds H1 s1 e1 hd r1 => ?_⟩
  show spG C (vs ++ []) H1 Q E0
  rw [List.append_nil]
  obtain ⟨a, rfl, hp, hD⟩ := hG ds hd
  exact ⟨O1 ++ O0, a, hp, s1.al, r1, fun v d H' e' hd' r => s1.kt e1 q v d H' e' (hD d hd') r⟩
/-- a: the contract's arguments -/
theorem ev_call (F : Def X.prog X.w X.K X.mg X.base k x ps C) (a : C.A) (hr : Room n X.A) (hg : Gl X x) (ha : EvA X ρ (e :: es) (C.enc a)) (hp : C.pre a) (hG : C.res a = Eq d := by rfl) (hkn : k ≤ n := by decide)
    (hdb : (x == ("__debug__" : Str)) = false := by decide) (he : starEach (e :: es) X.env = (false, eval e X.env) :: starEach es X.env := by rfl) (hpl : (backTo pos (starEach es X.env)).any (·.1) = false := by rfl) : Ev X ρ (.Call (.Name x p) (e :: es) [] pos) d :=
  evn_call F hr hg ha (fun ds' e => ⟨a, e.symm, hp, fun d' h => by rw [hG] at h; exact h⟩) hkn hdb he hpl
/-! calls with keywords -/
abbrev EvKN (X : Cx) (ρ : List SD) (kws : List Keyword) (E : List PyData → Prop) : Prop := PK X kws (tAs ρ E)
theorem pk_imp {X : Cx} {kws : List Keyword} {t t' : TA} (h : PK X kws t) (k : ∀ σ H Q, t' σ H Q → t σ H Q) : PK X kws t' := ⟨fun pos pins s σ H Q I q => h.run pos pins s σ H Q I (k σ H Q q)⟩
theorem ek_nil : EvKN X ρ [] (Eq []) := pk_imp pk_nil fun σ H Q ⟨F, O0, O1, s, q⟩ => q [] [] H s (Ex.refl _) rfl .nil
theorem ek_cons {A : PyData → Prop} {E : List PyData → Prop} {kws : List Keyword} {nm : Option Str} {kp : Pos} (ha : EvN X ρ e A) (hr : EvKN X ρ kws E) : EvKN X ρ (⟨nm, e, kp⟩ :: kws) (fun ds => ∃ d r, ds = d :: r ∧ A d ∧ E r) :=
  pk_imp (pk_cons ha hr) fun σ H Q ⟨F, O0, O1, s, q⟩ => ⟨F, O0, O1, s, fun v d H1 s1 e1 hd r1 => ⟨F, O0, O1, s1, fun vs ds H2 s2 e2 hds r2 => q _ _ H2 s2 (e1.trans e2) ⟨d, ds, rfl, hd, hds⟩ (.cons (r1.mono e2) r2)⟩⟩
theorem ek_imp {E E' : List PyData → Prop} {kws : List Keyword} (h : EvKN X ρ kws E) (k : ∀ ds, E ds → E' ds) : EvKN X ρ kws E' := pk_imp h fun σ H Q ⟨F, O0, O1, s, q⟩ => ⟨F, O0, O1, s, fun v d H' s' e' hd r => q v d H' s' e' (k d hd) r⟩
theorem ek_c {d : PyData} {ds : List PyData} {kws : List Keyword} {nm : Option Str} {kp : Pos} (ha : Ev X ρ e d) (hr : EvKN X ρ kws (Eq ds)) : EvKN X ρ (⟨nm, e, kp⟩ :: kws) (Eq (d :: ds)) := ek_imp (ek_cons ha hr) fun z ⟨a, b, h1, h2, h3⟩ => by subst h1; subst h2; subst h3; rfl
theorem pe_callK0 {CX : CXT} {sp : Sp} {E : XK} {f : Addr} {fd : FuncData} {ks : List Str} {g : List Value → List Value → List Value} {gV : List V → List V → List V} {kws : List Keyword} {tk : TA} (F : FnOk X.prog X.w X.K X.mg X.base CX k f fd ps sp) (hr : Room k X.A) (hg : Gl X x) (hm : X.mg x = some (.ref f)) (hk : PySem.W.keepIn X.K (.ref f) = true) (hb : KBinds X.K fd ps ks g gV) (hx : Passes CX X E)
    (hkw : PK X kws tk) (hall : (backToKw pos (keywordEach kws X.env)).all (·.1.isSome) = true := by rfl) (hks : (backToKw pos (keywordEach kws X.env)).filterMap (·.1) = ks := by rfl)
    (hdb : (x == ("__debug__" : Str)) = false := by decide) (hpl : ((backTo pos (starEach [] X.env)).any (·.1) || (backToKw pos (keywordEach kws X.env)).any (·.1.isNone)) = false := by rfl) :
    PE X (.Call (.Name x p) [] kws pos) (fun σ H Q => tk σ H fun zs H2 => sp (gV [] zs) H2 Q E) := by
  refine ⟨fun pins s σ H Q I h => ?_⟩
  refine wpAny_Call_Name_kw (ld_glob I hg hm ?_ hdb)
  refine PySem.W.callWith_KW0 (h₀ := X.base) I.ok.mod.kin hk hall (thn (hkw.run pos pins s σ H _ I h) fun ws s2 ⟨zs, H2, I2, rz, q2⟩ => ⟨I2.kIn, ?_⟩) hpl
  rw [hks]
  exact run_fnk (us := []) (vs := []) F hr hb hx I2 .nil rz q2
theorem evn_callK0 {E : List PyData → Prop} {kws : List Keyword} (F : Def X.prog X.w X.K X.mg X.base k x ps C) (hr : Room n X.A) (hg : Gl X x) (ha : EvKN X ρ kws E) (hG : ∀ ds, E ds → ∃ a, ds = C.enc a ∧ C.pre a ∧ ∀ d, C.res a d → D d) (hps : ps ≠ [] := by decide) (hkn : k ≤ n := by decide)
    (hall : (backToKw pos (keywordEach kws X.env)).all (·.1.isSome) = true := by rfl) (hks : (backToKw pos (keywordEach kws X.env)).filterMap (·.1) = ps.drop 0 := by rfl)
    (hdb : (x == ("__debug__" : Str)) = false := by decide) (hpl : ((backTo pos (starEach [] X.env)).any (·.1) || (backToKw pos (keywordEach kws X.env)).any (·.1.isNone)) = false := by rfl) : EvN X ρ (.Call (.Name x p) [] kws pos) D := by
  obtain ⟨f, fd, F1, F2, F3, F4⟩ := F
  refine pe_imp (pe_callK0 F1 (hr.mono hkn) hg F2 F3 (F4.kb hps 0) pass0 ha hall hks hdb hpl) fun σ H Q ⟨F, O0, O1, s, q⟩ => ⟨F, O0, O1, s, fun vs ds H1 s1 e1 hd r1 => ?_⟩
  show spG C (kwG 0 [] vs) H1 Q E0
  obtain ⟨a, rfl, hp, hD⟩ := hG ds hd
  exact ⟨O1 ++ O0, a, hp, s1.al, r1, fun v d H' e' hd' r => s1.kt e1 q v d H' e' (hD d hd') r⟩
theorem ev_callK0 {kws : List Keyword} (F : Def X.prog X.w X.K X.mg X.base k x ps C) (a : C.A) (hr : Room n X.A) (hg : Gl X x) (ha : EvKN X ρ kws (Eq (C.enc a))) (hp : C.pre a) (hG : C.res a = Eq d := by rfl) (hps : ps ≠ [] := by decide) (hkn : k ≤ n := by decide)
    (hall : (backToKw pos (keywordEach kws X.env)).all (·.1.isSome) = true := by rfl) (hks : (backToKw pos (keywordEach kws X.env)).filterMap (·.1) = ps.drop 0 := by rfl)
    (hdb : (x == ("__debug__" : Str)) = false := by decide) (hpl : ((backTo pos (starEach [] X.env)).any (·.1) || (backToKw pos (keywordEach kws X.env)).any (·.1.isNone)) = false := by rfl) : Ev X ρ (.Call (.Name x p) [] kws pos) d :=
  evn_callK0 F hr hg ha (fun ds' e => ⟨a, e.symm, hp, fun d' h => by rw [hG] at h; exact h⟩) hps hkn hall hks hdb hpl
theorem evn_callK {E1 E2 : List PyData → Prop} {kws : List Keyword} (m : Nat) (F : Def X.prog X.w X.K X.mg X.base k x ps C) (hr : Room n X.A) (hg : Gl X x) (ha1 : EvAN X ρ (e :: es) E1) (ha : EvKN X ρ kws E2) (hG : ∀ d1 ds, E1 d1 → E2 ds → d1.length = m ∧ ∃ a, d1 ++ ds = C.enc a ∧ C.pre a ∧ ∀ d, C.res a d → D d) (hps : ps ≠ [] := by decide) (hkn : k ≤ n := by decide)
    (hall : (backToKw pos (keywordEach kws X.env)).all (·.1.isSome) = true := by rfl) (hks : (backToKw pos (keywordEach kws X.env)).filterMap (·.1) = ps.drop m := by rfl)
    (hdb : (x == ("__debug__" : Str)) = false := by decide) (he : starEach (e :: es) X.env = (false, eval e X.env) :: starEach es X.env := by rfl) (hpl : ((backTo pos (starEach (e :: es) X.env)).any (·.1) || (backToKw pos (keywordEach kws X.env)).any (·.1.isNone)) = false := by rfl) : EvN X ρ (.Call (.Name x p) (e :: es) kws pos) D := by
  obtain ⟨f, fd, F1, F2, F3, F4⟩ := F
  refine pe_imp (pe_callK F1 (hr.mono hkn) hg F2 F3 (F4.kb hps m) pass0 ha1 ha hall hks hdb he hpl) fun σ H Q ⟨F, O0, O1, s, q⟩ => ⟨F, O0, O1, s, fun us d1 H1 s1 e1 hd1 r1 => ⟨F, O0, O1, s1, fun vs ds H2 s2 e2 hd r2 => ?_⟩⟩
  show spG C (kwG m us vs) H2 Q E0
  obtain ⟨hl, a, ea, hp, hD⟩ := hG d1 ds hd1 hd
  unfold kwG
  rw [if_pos (r1.len.trans hl)]
  exact ⟨O1 ++ O0, a, hp, s2.al, by rw [← ea]; exact (r1.mono e2).append r2, fun v d H' e' hd' r => s2.kt (e1.trans e2) q v d H' e' (hD d hd') r⟩
end
end
end PL

namespace PL
open PySem PySem.Spec PyProof.Rows L2

/-! ## isinstance of a built-in class -/
def tyD : PyData → String
  | .none => "NoneType"
  | .bool _ => "bool"
  | .int _ => "int"
  | .str _ => "str"
  | .list _ => "list"
  | .tuple _ => "tuple"
  | .dict _ => "dict"
def isInt : PyData → Bool
  | .bool _ => true
  | .int _ => true
  | _ => false
def isBool : PyData → Bool
  | .bool _ => true
  | _ => false
def isTup : PyData → Bool
  | .tuple _ => true
  | _ => false
def isStrD : PyData → Bool
  | .str _ => true
  | _ => false
theorem kit_int (d : PyData) (h : ∀ kvs, d ≠ .dict kvs) : kitB (tyD d) "int" = some (isInt d) := by
  cases d with
  | none => show kitB "NoneType" "int" = some false; decide +kernel
  | bool _ => show kitB "bool" "int" = some true; decide +kernel
  | int _ => show kitB "int" "int" = some true; decide +kernel
  | str _ => show kitB "str" "int" = some false; decide +kernel
  | list _ => show kitB "list" "int" = some false; decide +kernel
  | tuple _ => show kitB "tuple" "int" = some false; decide +kernel
  | dict kvs => exact absurd rfl (h kvs)
theorem kit_bool (d : PyData) (h : ∀ kvs, d ≠ .dict kvs) : kitB (tyD d) "bool" = some (isBool d) := by
  cases d with
  | none => show kitB "NoneType" "bool" = some false; decide +kernel
  | bool _ => show kitB "bool" "bool" = some true; decide +kernel
  | int _ => show kitB "int" "bool" = some false; decide +kernel
  | str _ => show kitB "str" "bool" = some false; decide +kernel
  | list _ => show kitB "list" "bool" = some false; decide +kernel
  | tuple _ => show kitB "tuple" "bool" = some false; decide +kernel
  | dict kvs => exact absurd rfl (h kvs)
theorem kit_tup (d : PyData) (h : ∀ kvs, d ≠ .dict kvs) : kitB (tyD d) "tuple" = some (isTup d) := by
  cases d with
  | none => show kitB "NoneType" "tuple" = some false; decide +kernel
  | bool _ => show kitB "bool" "tuple" = some false; decide +kernel
  | int _ => show kitB "int" "tuple" = some false; decide +kernel
  | str _ => show kitB "str" "tuple" = some false; decide +kernel
  | list _ => show kitB "list" "tuple" = some false; decide +kernel
  | tuple _ => show kitB "tuple" "tuple" = some true; decide +kernel
  | dict kvs => exact absurd rfl (h kvs)
theorem kit_str (d : PyData) (h : ∀ kvs, d ≠ .dict kvs) : kitB (tyD d) "str" = some (isStrD d) := by
  cases d with
  | none => show kitB "NoneType" "str" = some false; decide +kernel
  | bool _ => show kitB "bool" "str" = some false; decide +kernel
  | int _ => show kitB "int" "str" = some false; decide +kernel
  | str _ => show kitB "str" "str" = some true; decide +kernel
  | list _ => show kitB "list" "str" = some false; decide +kernel
  | tuple _ => show kitB "tuple" "str" = some false; decide +kernel
  | dict kvs => exact absurd rfl (h kvs)
theorem Rp.nodict {H : Hp} {v : V} {d : PyData} (r : Rp H v d) : ∀ kvs, d ≠ .dict kvs := fun kvs e => by subst e; cases r
theorem Rp.ty {K : PySem.W.Frag} {H : Hp} {v : V} {d : PyData} (r : Rp H v d) : TyX K H v (.type (tyD d)) := by
  cases r with
  | non => exact .base .non
  | bl b => exact .base (.bl b)
  | int i => exact .base (.int i)
  | str x l => exact .base (.str x)
  | lst h _ _ => exact .base (.lst h)
  | tup h _ _ => exact .base (.tup h)
section
variable {X : Cx} {ρ : List SD} {a b c : Expr} {es : List Expr} {d da db : PyData} {p p2 pos : Pos} {x : Str} {T : String}
theorem ev_isi {k : Bool} (hg : Gl X "isinstance") (hm : X.mg "isinstance" = none) (hg2 : Gl X x) (hm2 : X.mg x = none) (hv : bootBuiltins x = some (.type T)) (ha : Ev X ρ a d) (hk : (∀ kvs, d ≠ .dict kvs) → kitB (tyD d) T = some k)
    (hn : x ≠ "__name__" := by decide) (hdb : (x == ("__debug__" : Str)) = false := by decide)
    (he : starEach [a, .Name x p2] X.env = (false, eval a X.env) :: starEach [.Name x p2] X.env := by rfl) (he2 : starEach [.Name x p2] X.env = (false, eval (.Name x p2) X.env) :: starEach [] X.env := by rfl) (hpl : (backTo pos (starEach [.Name x p2] X.env)).any (·.1) = false := by rfl) :
    Ev X ρ (.Call (.Name "isinstance" p) [a, .Name x p2] [] pos) (.bool k) :=
  pe_imp (pe_callB call_isi hg hm (by decide +kernel) (pa_cons ha (pa_cons (pe_bltn (v := .ty T) hg2 hm2 hv rfl hn hdb) pa_nil he2) he) (by decide) (by decide) he hpl) fun σ H Q ⟨F, O0, O1, s, q⟩ => ⟨F, O0, O1, s, fun v d' H1 s1 e1 hd r1 => by
    subst hd
    exact ⟨v, .ty T, .type (tyD d), .type T, k, rfl, .ty T, (r1.mono Ex.unmsk).ty, kit_ty (hk r1.nodict), q _ _ H1 s1 e1 rfl (.bl k)⟩⟩
theorem ev_isInt (hg : Gl X "isinstance") (hm : X.mg "isinstance" = none) (hg2 : Gl X "int") (hm2 : X.mg "int" = none) (ha : Ev X ρ a d) (he : starEach [a, .Name "int" p2] X.env = (false, eval a X.env) :: starEach [.Name "int" p2] X.env := by rfl) (he2 : starEach [.Name "int" p2] X.env = (false, eval (.Name "int" p2) X.env) :: starEach [] X.env := by rfl) :
    Ev X ρ (.Call (.Name "isinstance" p) [a, .Name "int" p2] [] pos) (.bool (isInt d)) := ev_isi hg hm hg2 hm2 (by decide +kernel) ha (kit_int d) (by decide) (by decide) he he2
theorem ev_isBool (hg : Gl X "isinstance") (hm : X.mg "isinstance" = none) (hg2 : Gl X "bool") (hm2 : X.mg "bool" = none) (ha : Ev X ρ a d) (he : starEach [a, .Name "bool" p2] X.env = (false, eval a X.env) :: starEach [.Name "bool" p2] X.env := by rfl) (he2 : starEach [.Name "bool" p2] X.env = (false, eval (.Name "bool" p2) X.env) :: starEach [] X.env := by rfl) :
    Ev X ρ (.Call (.Name "isinstance" p) [a, .Name "bool" p2] [] pos) (.bool (isBool d)) := ev_isi hg hm hg2 hm2 (by decide +kernel) ha (kit_bool d) (by decide) (by decide) he he2
theorem ev_isTup (hg : Gl X "isinstance") (hm : X.mg "isinstance" = none) (hg2 : Gl X "tuple") (hm2 : X.mg "tuple" = none) (ha : Ev X ρ a d) (he : starEach [a, .Name "tuple" p2] X.env = (false, eval a X.env) :: starEach [.Name "tuple" p2] X.env := by rfl) (he2 : starEach [.Name "tuple" p2] X.env = (false, eval (.Name "tuple" p2) X.env) :: starEach [] X.env := by rfl) :
    Ev X ρ (.Call (.Name "isinstance" p) [a, .Name "tuple" p2] [] pos) (.bool (isTup d)) := ev_isi hg hm hg2 hm2 (by decide +kernel) ha (kit_tup d) (by decide) (by decide) he he2
theorem ev_isStr (hg : Gl X "isinstance") (hm : X.mg "isinstance" = none) (hg2 : Gl X "str") (hm2 : X.mg "str" = none) (ha : Ev X ρ a d) (he : starEach [a, .Name "str" p2] X.env = (false, eval a X.env) :: starEach [.Name "str" p2] X.env := by rfl) (he2 : starEach [.Name "str" p2] X.env = (false, eval (.Name "str" p2) X.env) :: starEach [] X.env := by rfl) :
    Ev X ρ (.Call (.Name "isinstance" p) [a, .Name "str" p2] [] pos) (.bool (isStrD d)) := ev_isi hg hm hg2 hm2 (by decide +kernel) ha (kit_str d) (by decide) (by decide) he he2

/-! ## in -/
theorem op_inT (hu : X.A.units + 65 < cLine) : OpR X (compareOp .In) (fun x y H Q => ∃ d ds, Dp X.K H x d ∧ Dp X.K H y (.tuple ds) ∧ SeqAt.shaped d = true ∧ SeqAt.shaped (.tuple ds) = true ∧ Q (.bl (ds.any fun z => PyData.eqv z d)) H) := by
  intro pins s σ H x y v u Q I rx ry h
  obtain ⟨d, ds, hd, he, sd, se, q⟩ := h
  obtain ⟨as, r1⟩ := Dp.reads I d x v hd rx
  obtain ⟨bs, r2⟩ := Dp.reads I (.tuple ds) y u he ry
  exact SeqAt.in_tuple_reads r2 r1 (SeqAt.canLay_of_shaped se) (SeqAt.canLay_of_shaped sd) (room_in_shaped sd hu) ⟨.bl _, H, I, rfl, q⟩
theorem op_notInT (hu : X.A.units + 65 < cLine) : OpR X (compareOp .NotIn) (fun x y H Q => ∃ d ds, Dp X.K H x d ∧ Dp X.K H y (.tuple ds) ∧ SeqAt.shaped d = true ∧ SeqAt.shaped (.tuple ds) = true ∧ Q (.bl (!ds.any fun z => PyData.eqv z d)) H) := by
  intro pins s σ H x y v u Q I rx ry h
  obtain ⟨d, ds, hd, he, sd, se, q⟩ := h
  obtain ⟨as, r1⟩ := Dp.reads I d x v hd rx
  obtain ⟨bs, r2⟩ := Dp.reads I (.tuple ds) y u he ry
  exact SeqAt.notIn_tuple_reads r2 r1 (SeqAt.canLay_of_shaped se) (SeqAt.canLay_of_shaped sd) (room_in_shaped sd hu) ⟨.bl _, H, I, rfl, q⟩
theorem room65 {n : Nat} (hr : Room n X.A) : X.A.units + 65 < cLine := by have := hr.un; omega
def inD (d : PyData) (ds : List PyData) : Bool := ds.any fun z => PyData.eqv z d
section
variable {n : Nat} {ds : List PyData} {k : Bool}
theorem ev_inT (hr : Room n X.A) (ha : Ev X ρ a d) (hb : Ev X ρ b (.tuple ds)) (sa : SeqAt.shaped d = true) (sb : SeqAt.shaped (.tuple ds) = true) (e : inD d ds = k) (hm : behindInMarks .In b = false := by rfl) : Ev X ρ (.Compare a [.In] [b] pos) (.bool k) := by
  subst e
  exact ev_cmp (op_inT (room65 hr)) ha hb (fun O H x y Q al hx hy q => ⟨d, ds, (hx.mono Ex.unmsk).dp, (hy.mono Ex.unmsk).dp, sa, sb, q.here rfl (.bl _)⟩) hm
theorem ev_inL (hr : Room n X.A) (ha : Ev X ρ a d) (hb : Ev X ρ b (.list ds)) (sa : SeqAt.shaped d = true) (sb : SeqAt.shaped (.list ds) = true) (e : inD d ds = k) (hm : behindInMarks .In b = false := by rfl) : Ev X ρ (.Compare a [.In] [b] pos) (.bool k) := by
  subst e
  exact ev_cmp (op_inD (room65 hr)) ha hb (fun O H x y Q al hx hy q => ⟨d, ds, (hx.mono Ex.unmsk).dp, (hy.mono Ex.unmsk).dp, sa, sb, q.here rfl (.bl _)⟩) hm
theorem ev_ninT (hr : Room n X.A) (ha : Ev X ρ a d) (hb : Ev X ρ b (.tuple ds)) (sa : SeqAt.shaped d = true) (sb : SeqAt.shaped (.tuple ds) = true) (e : (!inD d ds) = k) (hm : behindInMarks .NotIn b = false := by rfl) : Ev X ρ (.Compare a [.NotIn] [b] pos) (.bool k) := by
  subst e
  exact ev_cmp (op_notInT (room65 hr)) ha hb (fun O H x y Q al hx hy q => ⟨d, ds, (hx.mono Ex.unmsk).dp, (hy.mono Ex.unmsk).dp, sa, sb, q.here rfl (.bl _)⟩) hm
theorem ev_ninL (hr : Room n X.A) (ha : Ev X ρ a d) (hb : Ev X ρ b (.list ds)) (sa : SeqAt.shaped d = true) (sb : SeqAt.shaped (.list ds) = true) (e : (!inD d ds) = k) (hm : behindInMarks .NotIn b = false := by rfl) : Ev X ρ (.Compare a [.NotIn] [b] pos) (.bool k) := by
  subst e
  exact ev_cmp (op_notInD (room65 hr)) ha hb (fun O H x y Q al hx hy q => ⟨d, ds, (hx.mono Ex.unmsk).dp, (hy.mono Ex.unmsk).dp, sa, sb, q.here rfl (.bl _)⟩) hm
theorem et_inT (hr : Room n X.A) (ha : Ev X ρ a d) (hb : Ev X ρ b (.tuple ds)) (sa : SeqAt.shaped d = true) (sb : SeqAt.shaped (.tuple ds) = true) (e : inD d ds = k) (hm : behindInMarks .In b = false := by rfl) : EvT X ρ (.Compare a [.In] [b] pos) k := by
  subst e
  exact et_cmp (op_inT (room65 hr)) ha hb (fun O H x y Q al hx hy q => ⟨d, ds, (hx.mono Ex.unmsk).dp, (hy.mono Ex.unmsk).dp, sa, sb, q.here rfl (.bl _)⟩) hm
theorem et_inL (hr : Room n X.A) (ha : Ev X ρ a d) (hb : Ev X ρ b (.list ds)) (sa : SeqAt.shaped d = true) (sb : SeqAt.shaped (.list ds) = true) (e : inD d ds = k) (hm : behindInMarks .In b = false := by rfl) : EvT X ρ (.Compare a [.In] [b] pos) k := by
  subst e
  exact et_cmp (op_inD (room65 hr)) ha hb (fun O H x y Q al hx hy q => ⟨d, ds, (hx.mono Ex.unmsk).dp, (hy.mono Ex.unmsk).dp, sa, sb, q.here rfl (.bl _)⟩) hm
theorem et_ninT (hr : Room n X.A) (ha : Ev X ρ a d) (hb : Ev X ρ b (.tuple ds)) (sa : SeqAt.shaped d = true) (sb : SeqAt.shaped (.tuple ds) = true) (e : (!inD d ds) = k) (hm : behindInMarks .NotIn b = false := by rfl) : EvT X ρ (.Compare a [.NotIn] [b] pos) k := by
  subst e
  exact et_cmp (op_notInT (room65 hr)) ha hb (fun O H x y Q al hx hy q => ⟨d, ds, (hx.mono Ex.unmsk).dp, (hy.mono Ex.unmsk).dp, sa, sb, q.here rfl (.bl _)⟩) hm
theorem et_ninL (hr : Room n X.A) (ha : Ev X ρ a d) (hb : Ev X ρ b (.list ds)) (sa : SeqAt.shaped d = true) (sb : SeqAt.shaped (.list ds) = true) (e : (!inD d ds) = k) (hm : behindInMarks .NotIn b = false := by rfl) : EvT X ρ (.Compare a [.NotIn] [b] pos) k := by
  subst e
  exact et_cmp (op_notInD (room65 hr)) ha hb (fun O H x y Q al hx hy q => ⟨d, ds, (hx.mono Ex.unmsk).dp, (hy.mono Ex.unmsk).dp, sa, sb, q.here rfl (.bl _)⟩) hm
end
/-! max(a, b), min(a, b) -/
theorem ev_max2 {i j : Int} (hc : X.calm = true) (hg : Gl X "max") (hm : X.mg "max" = none) (ha : Ev X ρ a (.int i)) (hb : Ev X ρ b (.int j)) (he : starEach [a, b] X.env = (false, eval a X.env) :: starEach [b] X.env := by rfl) (he2 : starEach [b] X.env = (false, eval b X.env) :: starEach [] X.env := by rfl) (hpl : (backTo pos (starEach [b] X.env)).any (·.1) = false := by rfl) :
    Ev X ρ (.Call (.Name "max" p) [a, b] [] pos) (.int (if j > i then j else i)) :=
  ev_callB (call_max2 hc) hg hm (by decide +kernel) (ea_cons ha (ea_cons hb ea_nil he2) he) (fun O H xs Q al r k => by
    obtain ⟨v, w, rfl, r1, r2⟩ := rpA2 r
    cases r1; cases r2
    exact ⟨i, j, rfl, k.here rfl (.int _)⟩) (by decide) (by decide) he hpl
theorem ev_min2 {i j : Int} (hc : X.calm = true) (hg : Gl X "min") (hm : X.mg "min" = none) (ha : Ev X ρ a (.int i)) (hb : Ev X ρ b (.int j)) (he : starEach [a, b] X.env = (false, eval a X.env) :: starEach [b] X.env := by rfl) (he2 : starEach [b] X.env = (false, eval b X.env) :: starEach [] X.env := by rfl) (hpl : (backTo pos (starEach [b] X.env)).any (·.1) = false := by rfl) :
    Ev X ρ (.Call (.Name "min" p) [a, b] [] pos) (.int (if j < i then j else i)) :=
  ev_callB (call_min2 hc) hg hm (by decide +kernel) (ea_cons ha (ea_cons hb ea_nil he2) he) (fun O H xs Q al r k => by
    obtain ⟨v, w, rfl, r1, r2⟩ := rpA2 r
    cases r1; cases r2
    exact ⟨i, j, rfl, k.here rfl (.int _)⟩) (by decide) (by decide) he hpl
end

/-! ## several targets -/
section
variable {X : Cx} {ρ ρ1 : List SD} {P : Po} {rest : List Stmt} {e tg : Expr} {es : List Expr} {d : PyData} {pos pos' : Pos} {js : List Nat}
/-- target = value, the target of any form -/
theorem hs_asg (he : Ev X ρ e d) (hg : EvG X tg ρ d ρ1 js) (k : HSs X rest ρ1 P) (hs : swapsWithSole [tg] e pos.line X.env = pure false := by rfl) (hw : swappedStores [tg] e X.env = pure none := by rfl)
    (h1 : (assignEach [tg] X.env).map (·.2) = [assign tg X.env] := by rfl) : HSs X (.Assign [tg] e pos :: rest) ρ P :=
  hs_cons (M := (· = ρ1)) (ps_imp (ps_asg he hg hs hw h1) fun Dn σ H ⟨F, O0, O1, s, a, b, k, t⟩ => ⟨F, O0, O1, s, fun v d' H' s' e' hd r => by
    subst hd
    exact ⟨F, O0, O1, s', r, fun σ' _ s2 => a ρ1 O1 σ' H' rfl s2⟩⟩) fun r z => by subst z; exact k
def setAll (ρ : List SD) : List Nat → List PyData → List SD
  | i :: is, d :: ds => setAll (ρ.set i (.dat d)) is ds
  | _, _ => ρ
theorem store_names {pins : List (Addr × Obj)} {F H : Hp} {O0 O1 : List Addr} {Q : Unit → Shared → Prop} (hN : X.N.Nodup) : ∀ (ns : List (Str × Nat)) (vs : List V) (us : List Value) (ds : List PyData) (ρ : List SD) (σ : Sg) (s : Shared),
    (∀ n ∈ ns, X.N[n.2]? = some n.1 ∧ X.env.scope.names.lookup n.1 = some .local ∧ plainAt ρ n.2 = true) → Inv X pins σ H s → Vals vs us → RpA (msk (O1 ++ O0) H) vs ds → SA F O0 O1 ρ σ H → ns.length = ds.length →
    (∀ σ' s', Inv X pins σ' H s' → SA F O0 O1 (setAll ρ (ns.map (·.2)) ds) σ' H → Q () s') → wpAny (model X.prog X.w) X.A (assignInOrder (ns.map fun n => bindName X.env n.1) us) Q X.xe s
  | [], vs, us, ds, ρ, σ, s, ok, I, rv, rp, sa, hl, k => by
    cases ds with
    | nil =>
      cases rp; cases rv
      exact assignInOrder_nil (k σ s I sa)
    | cons _ _ => cases hl
  | n :: ns, vs, us, ds, ρ, σ, s, ok, I, rv, rp, sa, hl, k => by
    cases ds with
    | nil => cases hl
    | cons d ds =>
      cases rp with
      | cons r1 r2 =>
        cases rv with
        | cons q1 q2 =>
          obtain ⟨o1, o2, o3⟩ := ok n List.mem_cons_self
          refine assignInOrder_cons (wpAny_bindName (store_ok I hN o1 (.inl o2) q1 (fun s2 I2 => ?_) (.inr o2)))
          exact store_names hN ns _ _ ds (ρ.set n.2 (.dat d)) _ s2 (fun m hm => ⟨(ok m (List.mem_cons_of_mem _ hm)).1, (ok m (List.mem_cons_of_mem _ hm)).2.1, plainAt_set (ok m (List.mem_cons_of_mem _ hm)).2.2 rfl⟩) I2 q2 r2 (sa.set o3 r1) (Nat.succ.inj hl) k
theorem RpA.reverse {H : Hp} {vs : List V} {ds : List PyData} (r : RpA H vs ds) : RpA H vs.reverse ds.reverse := by
  induction ds generalizing vs with
  | nil => cases r; exact .nil
  | cons d ds ih =>
    cases r with
    | cons r1 r2 =>
      rw [List.reverse_cons, List.reverse_cons]
      exact (ih r2).append (.cons r1 .nil)
theorem Vals.reverse {vs : List V} {us : List Value} (r : Vals vs us) : Vals vs.reverse us.reverse := by
  induction us generalizing vs with
  | nil => cases r; exact .nil
  | cons d ds ih =>
    cases r with
    | cons r1 r2 =>
      rw [List.reverse_cons, List.reverse_cons]
      exact (ih r2).append (.cons r1 .nil)
/-- a, b(, c) = x, y(, z), all plain local names: ns, with their slots, from the left -/
theorem hs_parN {E : List PyData → Prop} {elts : List Expr} {kt k2 : Nat} {tp pt2 : Pos} (ns : List (Str × Nat)) (hc : X.calm = true) (hN : X.N.Nodup) (hns : (ns.all fun n => decide (X.N[n.2]? = some n.1) && decide (X.env.scope.names.lookup n.1 = some .local) && plainAt ρ n.2) = true)
    (ha : EvAN X ρ es E) (hE : ∀ ds, E ds → ds.length = ns.length) (hln : ns.length ≤ big) (k : ∀ ds, E ds → HSs X rest (setAll ρ (ns.reverse.map (·.2)) ds.reverse) P)
    (hw : swappedStores [.Tuple elts kt tp] (.Tuple es k2 pt2) X.env = pure (some (ns.map (·.1)))) (hs : swapsWithSole [.Tuple elts kt tp] (.Tuple es k2 pt2) pos.line X.env = pure false := by rfl) :
    HSs X (.Assign [.Tuple elts kt tp] (.Tuple es k2 pt2) pos :: rest) ρ P := by
  have ok : ∀ n ∈ ns, X.N[n.2]? = some n.1 ∧ X.env.scope.names.lookup n.1 = some .local ∧ plainAt ρ n.2 = true := fun n hn => by
    have h := List.all_eq_true.mp hns n hn
    simp only [Bool.and_eq_true, decide_eq_true_eq] at h
    exact ⟨h.1.1, h.1.2, h.2⟩
  refine hs_cons (M := fun r => ∃ ds, E ds ∧ r = setAll ρ (ns.reverse.map (·.2)) ds.reverse) ?_ fun r ⟨ds, h, z⟩ => by subst z; exact k ds h
  refine ⟨fun pins s σ H D I ⟨F, O0, O1, sa, nx, rt, bk, ct⟩ => ?_⟩
  refine Assign_Tuple_swapped (thn ((pe_tup (X := X) ha).run pins s σ H (fun v H' => ∃ p vs ds H1, v = .ref p ∧ E ds ∧ H1 p = none ∧ H' = upd H1 p (.tup vs) ∧ RpA (msk (O1 ++ O0) H') vs ds ∧ SA F O0 O1 ρ σ H') I ⟨F, O0, O1, sa, fun vs ds H1 s1 e1 hd r1 => ⟨by rw [r1.len, hE ds hd]; exact le_line hln, fun p hp =>
    ⟨p, vs, ds, H1, rfl, hd, hp, rfl, r1.mono (Ex.new hp).msk, s1.ex (Ex.new hp)⟩⟩⟩) fun v s1 ⟨x, H1, I1, rv, p, vs, ds, H0, ex, hd, hp, eH, rp, s2⟩ => ?_) hs hw
  subst ex
  obtain rfl : v = Value.ref p := rv
  have hH : H1 p = some (.tup vs) := by rw [eH, upd_same]
  obtain ⟨its, rt', pt, _⟩ := I1.tuple (SqT.of hH)
  have hlen : (ns.map (·.1)).length = its.toArray.size := by rw [List.length_map, List.size_toArray, ← rt'.length, rp.len, hE ds hd]
  rw [hlen]
  refine unpackItems_tuple (I1.ok.hd hc) pt fun h' hx => ?_
  have I2 : Inv X pins σ H1 { s1 with heap := h' } := I1.kept (t' := s1.toks) fun b o e => hx b o (Nat.ne_of_lt (Heap.lt_size e)) e
  have em : ((ns.map (·.1)).reverse.map fun n => bindName X.env n) = ns.reverse.map fun n => bindName X.env n.1 := by
    rw [← List.map_reverse, List.map_map]; rfl
  rw [em]
  have hr2 : Vals vs.reverse its.toArray.toList.reverse := Vals.reverse (by simpa using rt')
  refine store_names hN ns.reverse vs.reverse _ ds.reverse ρ σ _ (fun n hn => ok n (List.mem_reverse.mp hn)) I2 hr2 rp.reverse s2 (by rw [List.length_reverse, List.length_reverse, hE ds hd]) fun σ' s' I' sa' => ?_
  exact ⟨σ', H1, I', nx _ O1 σ' H1 ⟨ds, hd, rfl⟩ sa'⟩
end
end PL

namespace PySem
open Sem (wp)
set_option maxHeartbeats 1000000 in
theorem pl_meets_enumerate_new1 {v : Value} {o : Obj} {H : Heap → Prop} (B : Begins v o H) :
    Meets (Builtin.«enumerate.__new__» ⟨[.type "enumerate", v], []⟩) (fun _ R s => H s.heap ∧
      R (.ok (.ret (.ref (s.heap.push o).objs.size))) { s with heap := (s.heap.push o).push { cls := .type "enumerate", data := .fields #[.none, .bool false, .ref s.heap.objs.size, rawInt 0, .none, .none] } }) :=
  .of_wp fun prog w A R s h => by
    obtain ⟨hp, g, d, tk, os⟩ := s; obtain ⟨h1, h⟩ := h
    have hsub := sub_enumerate
    have q1 : ∀ {A' : Around} {E : Value → Shared → Prop} {Q : Value → Shared → Prop}, Q (.ref hp.objs.size) ⟨hp.push o, g, d, tk, os⟩ → wpAny (model prog w) A' (pyIter v) Q E ⟨hp, g, d, tk, os⟩ :=
      fun q => B.iter prog w _ _ ⟨hp, g, d, tk, os⟩ _ h1 q
    wp_walk using q1
    refine wpAny_stack_any fun st => wpAny_pure ?_
    split
    · rename_i c _ _ _ _ _
      cases (c == Value.type "enumerate")
      · wp_walk using q1
        exact ⟨_, rfl, h⟩
      · wp_walk using q1
        exact ⟨_, rfl, h⟩
    · wp_walk using q1
      exact ⟨_, rfl, h⟩
section
variable {prog : Program} {w : World} {A : Around} {E : Value → Shared → Prop} {s : Shared}
theorem pl_enum_begins1 {v : Value} {o : Obj} {H : Heap → Prop} {Q : Value → Shared → Prop} (B : Begins v o H) (h1 : H s.heap)
    (h : ∀ h', IsEnum h' (s.heap.objs.size + 1) s.heap.objs.size 0 .none → h'.get? s.heap.objs.size = some o → h'.objs.size = s.heap.objs.size + 2 →
      (∀ b o, s.heap.get? b = some o → h'.get? b = some o) → Q (.ref (s.heap.objs.size + 1)) { s with heap := h' }) :
    wpAny (model prog w) A (call (.type "enumerate") [v]) Q E s := by
  refine callType_new F.called_enumerate (by decide) (F.typeCall_enumerate_1 _) (F.newCall_enumerate_1 _) (fun obj => F.args_object_init_2 obj _) F.entry_enumerate_new
    (pl_meets_enumerate_new1 B) ⟨h1, ?_⟩
  have hz : (s.heap.push o).objs.size = s.heap.objs.size + 1 := Heap.size_push ..
  show _ ∧ _
  rw [hz]
  have he : IsEnum ((s.heap.push o).push { cls := .type "enumerate", data := .fields #[.none, .bool false, .ref s.heap.objs.size, rawInt 0, .none, .none] }) (s.heap.objs.size + 1) s.heap.objs.size 0 .none := by
    have := Heap.get?_push_size (s.heap.push o) (o := { cls := .type "enumerate", data := .fields #[.none, .bool false, .ref s.heap.objs.size, rawInt 0, .none, .none] }) rfl
    rw [hz] at this; exact this
  refine ⟨⟨_, he, rfl⟩, h _ he (Heap.get?_push_of_some _ (Heap.get?_push_size _ B.free)) (by rw [Heap.size_push, hz]) fun b o x => Heap.get?_push_of_some _ (Heap.get?_push_of_some _ x)⟩
end
end PySem
namespace PL
open PySem PySem.Spec PyProof.Rows L2
/-! ## enumerate(tuple) -/
def IteT (K : PySem.W.Frag) (a : Addr) : It :=
  ⟨fun i H => ∃ (xs : List V) (x : V), SqT K H a xs ∧ xs[i]? = some x, fun i H v H' => ∃ T x, v = .ref T ∧ H T = none ∧ H' = upd H T (.tup [.int (i : Nat), x]) ∧ ∀ xs, SqT K H a xs → xs[i]? = some x, fun i H => ∃ xs : List V, SqT K H a xs ∧ xs.length ≤ i⟩
theorem turn_enumT {P : Program} {w : World} {K : PySem.W.Frag} {elts : List Expr} {kk : Nat} {tpos : Pos} (a e it : Addr) :
    Turn P w K (.Tuple elts kk tpos) (IteT K a) [e, it] e (fun i h => (∃ old, IsEnum h e it ((i : Nat) : Int) old) ∧ h.IsTupleIter it a i ∧ e ≠ it ∧ a ≠ it ∧ a ≠ e) where
  mem := by simp
  obj := fun i h st b hb => by
    obtain ⟨⟨old, he⟩, ⟨o, ho, hc, hd⟩, _⟩ := st
    have e' : b = e ∨ b = it := by simpa using hb
    rcases e' with z | z
    · rw [z]; exact ⟨_, he, fun v q => nomatch q⟩
    · rw [z]; exact ⟨o, ho, fun v q => by rw [hd] at q; cases q⟩
  keep := fun i h h' st k => let ⟨⟨old, he⟩, hi, hne⟩ := st; ⟨⟨old, k e (by simp) _ he⟩, hi.at fun o q => k it (by simp) o q, hne⟩
  item := by
    intro X hP hw hK hc i pins s σ H E I hf st hg
    subst hP hw hK
    obtain ⟨⟨old, he⟩, hit, hne, ha1, ha2⟩ := st
    obtain ⟨xs, x, hq, hx⟩ := hg
    obtain ⟨its, rv, p, hz⟩ := I.tuple hq
    obtain ⟨u, hu, ru⟩ := rv.get hx
    have hel : e < s.heap.objs.size := Heap.lt_size he
    have hil : it < s.heap.objs.size := by obtain ⟨_, q, _⟩ := hit; exact Heap.lt_size q
    have hlt : i < its.toArray.size := by
      have := (List.getElem?_eq_some_iff.mp hu).1
      simpa using this
    refine wpAny_pyNext_enum_itemD (Draws.tuple (A := X.A.in1) (show X.A.in1.handled = none from I.ok.hd hc) it a ha1 its.toArray) he ⟨hit, show s.heap.IsTuple a its.toArray from p⟩ hlt hne (by
      intro z
      rcases List.mem_cons.mp z with z | z
      · exact hne z
      · exact ha2 (List.mem_singleton.mp z).symm) fun u' h' tk hu' ho hit' hT hsz hk => ?_
    have eu : u' = u := by
      have h1 : its.toArray[i]? = some u := by simpa using hu
      rw [h1] at hu'
      exact (Option.some.inj hu').symm
    subst eu
    refine ⟨_, rfl, wpAny_letOwnedTupleGo_enum (s := { s with heap := h', toks := tk + 1 }) ho fun h'' he' sb => ?_⟩
    have hT2 : h''.get? s.heap.objs.size = some { cls := .type "tuple", data := .seq #[.int i tk, u'] } := (sb.2 _ (Nat.ne_of_gt hel)).trans hT
    have new : ObjOk X.prog X.w (upd H s.heap.objs.size (.tup [.int (i : Nat), x])) h'' s.heap.objs.size (.tup [.int (i : Nat), x]) :=
      ⟨by show 2 ≤ sizeLine; decide, [.int i tk, u'], .cons ⟨_, rfl⟩ (.cons ru .nil), ⟨_, hT2, rfl, _, rfl⟩⟩
    have I1 : Inv X pins σ (upd H s.heap.objs.size (.tup [.int (i : Nat), x])) { s with heap := h'', toks := tk + 1 } :=
      I.turnedNew (ch := [e, it]) (fun b ob hb q => (sb.2 b (fun z => hb (by simp [z]))).trans (hk b ob (fun z => hb (by simp [z])) (fun z => hb (by simp [z])) q)) hf (Nat.le_refl _) new
    refine ⟨.ref s.heap.objs.size, _, I1, rfl, ⟨_, x, rfl, I.hok.fresh (Nat.le_refl _), rfl, fun ys hy => by rw [I.tuple_inj hy hq]; exact hx⟩, ⟨⟨u', ?_⟩, hit'.1.at fun o q => (sb.2 it (Ne.symm hne)).trans q, hne, ha1, ha2⟩, fun b hb => ?_⟩
    · have e1 : ((i + 1 : Nat) : Int) = (i : Int) + 1 := by omega
      rw [e1]; exact he'
    · have hb' : b < s.heap.objs.size := by
        have e' : b = e ∨ b = it := by simpa using hb
        rcases e' with z | z
        · rw [z]; exact hel
        · rw [z]; exact hil
      rw [upd_ne (Nat.ne_of_lt hb')]
      exact (hf b hb).1
  done := by
    intro X hP hw hK hc i pins s σ H E I hf st hg
    subst hP hw hK
    obtain ⟨⟨old, he⟩, hit, hne, ha1, ha2⟩ := st
    obtain ⟨xs, hq, hx⟩ := hg
    obtain ⟨its, rv, p, hz⟩ := I.tuple hq
    obtain ⟨f0, f1, f2, f3, f4, f5⟩ := hf it (by simp)
    have hl := rv.length
    have hT : s.TypeIs (.ref e) "enumerate" := ⟨_, he, rfl⟩
    unfold pyNext
    refine wpAny_bind (wpAny_attempt (wpAny_callSpecial?_slot (name := Str.ofString "__next__") hT F.slot_enumerate_next
      (wpAny_call_entry F.slot_enumerate_next hT F.entry_enumerate_next ?_ (F.args_enumerate_next_1 _))))
    show wpAny _ _ (field (.ref e) 2 >>= _) _ _ _
    refine wpAny_bind (wpAny_field he rfl (x := .ref it) rfl ?_)
    refine wpAny_bind (wpAny_nextOf_tuple_end (I.ok.hd hc) hit (show s.heap.IsTuple a its.toArray from p) (by simp; omega) fun h' x he' hx' => ?_)
    obtain ⟨o, ho, hcl⟩ := hx'
    refine wpAny_bind (wpAny_isInstance (T := "StopIteration") (b := true) ⟨o, ho, hcl⟩ isSubtype_stop ?_)
    exact wpAny_pure ⟨rfl, I.turned (t' := s.toks) (fun b o hb q => he' b o hb q) f0 f1 f3 f4 f5⟩
  self := fun A i s Q E st h => let ⟨⟨_, he⟩, _⟩ := st; wpAny_pyIter_enum he h
def iEnumT (K : PySem.W.Frag) (ta : TA) : TI := fun σ H R => ta σ H fun vs H1 => ∃ a xs, vs = [.ref a] ∧ SqT K H1 a xs ∧ R (IteT K a) H1
theorem pi_enumT {X : Cx} {e : Expr} {ta : TA} {p pos tpos : Pos} {elts : List Expr} {kk : Nat} (hg : Gl X "enumerate") (hm : X.mg "enumerate" = none) (ha : PA X [e] ta) (hs : starEach [e] X.env = [(false, eval e X.env)] := by rfl) :
    PI X (.Tuple elts kk tpos) (.Call (.Name "enumerate" p) [e] [] pos) (iEnumT X.K ta) := by
  refine ⟨fun pins s σ H R I h => ?_⟩
  refine Call_ (ld_blt I hg hm boot_enumerate (PyProof.Rows.callWith_type1 (thn (ha.run pos pins s σ H _ I h) fun us s1 ⟨vs, H1, I1, r1, q1⟩ => ?_) hs rfl))
  obtain ⟨a, xs, ex, hq, q⟩ := q1
  subst ex
  cases r1 with
  | cons r rr =>
    cases rr
    cases r
    obtain ⟨its, rv, p', hz⟩ := I1.tuple hq
    have hal : a < s1.heap.objs.size := p'.lt
    refine pl_enum_begins1 (begins_tuple a its.toArray) (show s1.heap.IsTuple a its.toArray from p') fun h' he hit hsz hk => wpAny_pyIter_enum he ?_
    have I2 : Inv X pins σ H1 { s1 with heap := h' } := I1.kept (t' := s1.toks) hk
    refine ⟨s1.heap.objs.size + 1, [s1.heap.objs.size + 1, s1.heap.objs.size], _, _, H1, rfl, I2, turn_enumT a (s1.heap.objs.size + 1) s1.heap.objs.size, ⟨⟨.none, he⟩, ⟨_, hit, rfl, rfl⟩, Nat.succ_ne_self _, Nat.ne_of_lt hal, Nat.ne_of_lt (Nat.lt_succ_of_lt hal)⟩, fun b hb => ?_, q⟩
    have e' : b = s1.heap.objs.size + 1 ∨ b = s1.heap.objs.size := by simpa using hb
    have hle : s1.heap.objs.size ≤ b := by
      rcases e' with z | z
      · rw [z]; exact Nat.le_add_right _ _
      · rw [z]; exact Nat.le_refl _
    exact I1.fpOk hle (I1.hok.fresh hle)
theorem wk_enumT {K : PySem.W.Frag} {Fz : Hp} {a : Addr} {xs : List V} {ds : List PyData} (h : Fz a = some (.tup xs)) (r : RpA Fz xs ds) : Wk Fz (IteT K a) (enumD ds) := fun i H2 e => by
  have h2 : H2 a = some (.tup xs) := e _ _ h
  refine ⟨fun d hd => ?_, fun hl => ⟨xs, SqT.of h2, by rw [r.len, ← enumD_len]; exact hl⟩⟩
  obtain ⟨d', hd', rfl⟩ := enumD_get hd
  obtain ⟨v, hv, rv⟩ := r.get hd'
  refine ⟨⟨xs, v, SqT.of h2, hv⟩, fun x H3 y => ?_⟩
  obtain ⟨T, x', rfl, hT, rfl, y⟩ := y
  have e1 := y xs (SqT.of h2)
  rw [hv] at e1
  cases e1
  exact ⟨Ex.new hT, fun O al n => rp_new2 hT al e n (.int _) rv⟩
theorem ei_enumT {X : Cx} {ρ : List SD} {e : Expr} {ds : List PyData} {p pos : Pos} {elts : List Expr} {kk : Nat} {tpos : Pos} (hg : Gl X "enumerate") (hm : X.mg "enumerate" = none) (ha : Ev X ρ e (.tuple ds)) (hs : starEach [e] X.env = [(false, eval e X.env)] := by rfl) :
    EvI X ρ (.Tuple elts kk tpos) (.Call (.Name "enumerate" p) [e] [] pos) (enumD ds) :=
  pi_imp (pi_enumT hg hm (ea_cons ha ea_nil hs) hs) fun σ H R ⟨F, O0, O1, s, k⟩ => ⟨F, O0, O1, s, fun vs es H1 s1 e1 hd r => by
    subst hd
    obtain ⟨v, rfl, r1⟩ := rpA1 r
    cases r1 with
    | tup h1 h2 h3 => exact ⟨_, _, rfl, SqT.of (msk_some h1).2, k _ _ H1 s1 e1 rfl (by rw [enumD_len]; exact h2) (wk_enumT h1 h3)⟩⟩
/-! short words -/
section
variable {X : Cx} {ρ : List SD} {d : PyData} {x : Str} {pos : Pos}
/-- the name in slot i -/
theorem vr (i : Nat) (hi : X.N[i]? = some x := by rfl) (hd : ρ[i]? = some (.dat d) := by rfl) (hv : Vis X.env.scope x := by first | exact Or.inl rfl | exact Or.inr (Or.inl rfl) | exact Or.inr (Or.inr rfl)) (h1 : (x == ("__debug__" : Str)) = false := by decide)
    (h2 : (x == ("__classdict__" : Str)) = false := by decide) : Ev X ρ (.Name x pos) d := ev_var (i := i) hi hd hv h1 h2
end
section
variable {X : Cx} {ρ : List SD} {a b : Expr} {rest : List Expr} {pos : Pos} {k k1 k2 : Bool}
theorem pw_eq' {e : Expr} (h : PW X e (tT ρ (Eq k1))) (q : k1 = k) : PW X e (tT ρ (Eq k)) := by subst q; exact h
theorem et_nt (h : EvT X ρ a k) (e : (!k) = k1 := by rfl) : EvT X ρ (.UnaryOp .Not a pos) k1 := et_eq' (et_not h) e
/-- a or b .., a test; the first is known -/
theorem et_or (k1 k2 : Bool) (ha : EvT X ρ a k1) (hb : k1 = false → PW X (.BoolOp .Or (b :: rest) pos) (tT ρ (Eq k2))) (e : (k1 || k2) = k := by rfl) : EvT X ρ (.BoolOp .Or (a :: b :: rest) pos) k := et_eq' (PW.pt (ew_or ha hb)) e
theorem et_orT (ha : EvT X ρ a true) : EvT X ρ (.BoolOp .Or (a :: b :: rest) pos) true := PW.pt (ew_or (k1 := true) (k2 := true) ha fun z => nomatch z)
theorem et_orF (ha : EvT X ρ a false) (hb : PW X (.BoolOp .Or (b :: rest) pos) (tT ρ (Eq k))) : EvT X ρ (.BoolOp .Or (a :: b :: rest) pos) k := PW.pt (ew_or (k1 := false) (k2 := k) ha fun _ => hb)
theorem ew_orT (ha : EvT X ρ a true) : PW X (.BoolOp .Or (a :: b :: rest) pos) (tT ρ (Eq true)) := ew_or (k1 := true) (k2 := true) ha fun z => nomatch z
theorem ew_orF (ha : EvT X ρ a false) (hb : PW X (.BoolOp .Or (b :: rest) pos) (tT ρ (Eq k))) : PW X (.BoolOp .Or (a :: b :: rest) pos) (tT ρ (Eq k)) := ew_or (k1 := false) (k2 := k) ha fun _ => hb
theorem et_and (k1 k2 : Bool) (ha : EvT X ρ a k1) (hb : k1 = true → PW X (.BoolOp .And (b :: rest) pos) (tT ρ (Eq k2))) (e : (k1 && k2) = k := by rfl) : EvT X ρ (.BoolOp .And (a :: b :: rest) pos) k := et_eq' (PW.pt (ew_and ha hb)) e
end
/-- the built-in names, none of them bound by the text -/
structure Bt (mg : Str → Option Value) : Prop where
  «isinstance» : mg "isinstance" = none
  «int» : mg "int" = none
  «bool» : mg "bool" = none
  «tuple» : mg "tuple" = none
  «list» : mg "list" = none
  «str» : mg "str" = none
  «len» : mg "len" = none
  «all» : mg "all" = none
  «any» : mg "any" = none
  «zip» : mg "zip" = none
  «sum» : mg "sum" = none
  «range» : mg "range" = none
  «enumerate» : mg "enumerate" = none
  «max» : mg "max" = none
  «min» : mg "min" = none
  «sorted» : mg "sorted" = none
  «set» : mg "set" = none
theorem ei_eq {X : Cx} {ρ : List SD} {tg e : Expr} {ds es : List PyData} (h : EvI X ρ tg e ds) (k : ds = es) : EvI X ρ tg e es := by subst k; exact h
theorem cutD_1 (ds : List PyData) : cutD ds (some 1) none = ds.drop 1 := by
  unfold cutD
  rw [show HT.sIx ds.length 0 (some 1) = min 1 ds.length from HT.sIx_nat ds.length 0 1, HT.sIx_none]
  cases ds with
  | nil => rfl
  | cons x r =>
    rw [show min 1 (x :: r).length = 1 by rw [List.length_cons]; omega]
    show (List.take ((x :: r).length - 1) r) = r
    rw [List.length_cons, Nat.add_sub_cancel]
    exact List.take_length
/-- a for over a list that is known, the slots known at each turn -/
theorem hs_forD {X : Cx} {ρ : List SD} {P : Po} {rest body : List Stmt} {tg iter : Expr} {pos : Pos} {α : Type} {xs : List α} {enc : α → PyData} (ρf : Nat → List SD) (hp : PassesOwn (model X.prog X.w) X.A X.env X.xe) (hc : X.calm = true) (hi : EvI X ρ tg iter (xs.map enc)) (h0 : ρ = ρf 0)
    (hb : ∀ (i : Nat) x, xs[i]? = some x → ∃ ρ2 js, EvG X tg (ρf i) (enc x) ρ2 js ∧ HSs X body ρ2 { nx := (· = ρf (i + 1)), rt := P.rt, bk := fun _ => False, ct := (· = ρf (i + 1)) })
    (hd : HSs X rest (ρf xs.length) P) (hs : ∀ x, foldedSetIterable iter X.env x = pure x := by intro _; rfl) : HSs X (.For tg iter body [] pos :: rest) ρ P := by
  refine hs_for (E := Eq (xs.map enc)) (fun _ i r => r = ρf i) (fun _ => False) hp hc hi (fun _ _ => h0) (fun ds i d ρ1 hE hd' hiv => ?_) (fun ds ρ1 hE hiv => ?_) (fun _ z => z.elim) hs
  · subst hE; subst hiv
    rw [List.getElem?_map] at hd'
    cases q : xs[i]? with
    | none => rw [q] at hd'; cases hd'
    | some x =>
      rw [q] at hd'
      have e : enc x = d := Option.some.inj hd'
      subst e
      exact hb i x q
  · subst hE; subst hiv
    rw [List.length_map]
    exact hd
theorem enumD_map {α : Type} (e : α → PyData) (xs : List α) : enumD (xs.map e) = xs.zipIdx.map fun x => .tuple [.int (x.2 : Nat), e x.1] := by
  unfold enumD
  rw [List.zipIdx_map, List.map_map]
  rfl
theorem take_succ {α : Type} {l : List α} {i : Nat} {x : α} (h : l[i]? = some x) : l.take (i + 1) = l.take i ++ [x] := by
  rw [List.take_add_one, h]; rfl
end PL

namespace Mus
open PySem PySem.Spec PyProof.Rows L2 PL
/-! ## shapes, equality of data that are told by plain things -/
def Shp (n : Nat) (d : PyData) : Prop := d.canLay0 = true ∧ d.depth ≤ n
theorem Shp.ok {n : Nat} {d : PyData} (h : Shp n d) (hn : n ≤ 64 := by decide) : SeqAt.shaped d = true := by
  unfold SeqAt.shaped
  rw [h.1, Bool.true_and, decide_eq_true_iff]
  exact Nat.le_trans h.2 hn
theorem Shp.mono {n m : Nat} {d : PyData} (h : Shp n d) (l : n ≤ m) : Shp m d := ⟨h.1, Nat.le_trans h.2 l⟩
theorem shp_int (i : Int) : Shp 0 (.int i) := ⟨by simp [PyData.canLay0], by simp [PyData.depth]⟩
theorem shp_bool (i : Bool) : Shp 0 (.bool i) := ⟨by simp [PyData.canLay0], by simp [PyData.depth]⟩
theorem shp_none : Shp 0 .none := ⟨by simp [PyData.canLay0], by simp [PyData.depth]⟩
theorem shp_str (x : Str) (h : PyData.strOk x = true) : Shp 0 (.str x) := ⟨by simpa [PyData.canLay0] using h, by simp [PyData.depth]⟩
theorem shpAll_iff {n : Nat} : ∀ ds : List PyData, (∀ d ∈ ds, Shp n d) → PyData.canLayAll0 ds = true ∧ PyData.depthAll ds ≤ n
  | [], _ => ⟨by simp [PyData.canLayAll0], by simp [PyData.depthAll]⟩
  | d :: ds, h => by
    obtain ⟨h1, h2⟩ := shpAll_iff ds fun x hx => h x (List.mem_cons_of_mem _ hx)
    obtain ⟨g1, g2⟩ := h d List.mem_cons_self
    refine ⟨by simp [PyData.canLayAll0, g1, h1], ?_⟩
    simp only [PyData.depthAll]
    omega
theorem shp_tuple {n : Nat} {ds : List PyData} (h : ∀ d ∈ ds, Shp n d) : Shp (n + 1) (.tuple ds) := by
  obtain ⟨h1, h2⟩ := shpAll_iff ds h
  exact ⟨by simpa [PyData.canLay0] using h1, by simp only [PyData.depth]; omega⟩
theorem shp_list {n : Nat} {ds : List PyData} (h : ∀ d ∈ ds, Shp n d) : Shp (n + 1) (.list ds) := by
  obtain ⟨h1, h2⟩ := shpAll_iff ds h
  exact ⟨by simpa [PyData.canLay0] using h1, by simp only [PyData.depth]; omega⟩
/-- an encoding: shaped, and == tells apart what differs -/
structure En {α : Type} [DecidableEq α] (e : α → PyData) (n : Nat) : Prop where
  shp : ∀ a, Shp n (e a)
  eq : ∀ a b, PyData.eqv (e a) (e b) = decide (a = b)
theorem En.ok {α : Type} [DecidableEq α] {e : α → PyData} {n : Nat} (h : En e n) (a : α) (hn : n ≤ 64 := by decide) : SeqAt.shaped (e a) = true := (h.shp a).ok hn
theorem en_int : En PyData.int 0 := ⟨shp_int, fun a b => by simp only [PyData.eqv]; rw [Bool.eq_iff_iff]; simp⟩
theorem en_bool : En PyData.bool 0 := ⟨shp_bool, fun a b => by simp only [PyData.eqv]; rw [Bool.eq_iff_iff]; simp⟩
theorem eqvAll_map {α : Type} [DecidableEq α] {e : α → PyData} (h : ∀ a b, PyData.eqv (e a) (e b) = decide (a = b)) : ∀ xs ys : List α, PyData.eqvAll (xs.map e) (ys.map e) = decide (xs = ys)
  | [], [] => by simp [PyData.eqvAll]
  | [], _ :: _ => by simp [PyData.eqvAll]
  | _ :: _, [] => by simp [PyData.eqvAll]
  | x :: xs, y :: ys => by
    have ih := eqvAll_map h xs ys
    simp only [List.map_cons, PyData.eqvAll, h x y, ih]
    rw [Bool.eq_iff_iff]
    simp
theorem en_tup {α : Type} [DecidableEq α] {e : α → PyData} {n : Nat} (h : En e n) : En (fun xs : List α => PyData.tuple (xs.map e)) (n + 1) :=
  ⟨fun xs => shp_tuple fun d hd => by obtain ⟨a, _, rfl⟩ := List.mem_map.mp hd; exact h.shp a, fun xs ys => by simp only [PyData.eqv]; exact eqvAll_map h.eq xs ys⟩
theorem en_lst {α : Type} [DecidableEq α] {e : α → PyData} {n : Nat} (h : En e n) : En (fun xs : List α => PyData.list (xs.map e)) (n + 1) :=
  ⟨fun xs => shp_list fun d hd => by obtain ⟨a, _, rfl⟩ := List.mem_map.mp hd; exact h.shp a, fun xs ys => by simp only [PyData.eqv]; exact eqvAll_map h.eq xs ys⟩
/-- membership -/
theorem inD_map {α : Type} [DecidableEq α] {e : α → PyData} {n : Nat} (h : En e n) (a : α) (xs : List α) [Decidable (a ∈ xs)] : inD (e a) (xs.map e) = decide (a ∈ xs) := by
  unfold inD
  rw [List.any_map, Bool.eq_iff_iff, List.any_eq_true, decide_eq_true_iff]
  constructor
  · rintro ⟨x, hx, hq⟩
    rw [Function.comp, h.eq] at hq
    rw [← of_decide_eq_true hq]; exact hx
  · intro ha
    exact ⟨a, ha, by rw [Function.comp, h.eq]; exact decide_eq_true rfl⟩
theorem eqv_lnil (ds : List PyData) : PyData.eqv (.list ds) (.list []) = ds.isEmpty := by
  cases ds <;> simp [PyData.eqv, PyData.eqvAll]
theorem eqv_tnil (ds : List PyData) : PyData.eqv (.tuple ds) (.tuple []) = ds.isEmpty := by
  cases ds <;> simp [PyData.eqv, PyData.eqvAll]

/-! ## the program's data -/
structure Wish where
  house : Int
  item : Int
  first : Int
  last : Int
  deriving DecidableEq
structure Obj where
  home : Int
  value : Int
  rest : Int
  light : Int
  deriving DecidableEq
structure Plan where
  houses : List Int
  objects : List Obj
  wishes : List Wish
  deriving DecidableEq
abbrev eW (w : Wish) : PyData := .tuple [.int w.house, .int w.item, .int w.first, .int w.last]
abbrev eO (o : Obj) : PyData := .tuple [.int o.home, .int o.value, .int o.rest, .int o.light]
abbrev eT (xs : List Int) : PyData := .tuple (xs.map PyData.int)
abbrev eP (p : Plan) : PyData := .tuple [eT p.houses, .tuple (p.objects.map eO), .tuple (p.wishes.map eW)]
theorem eqI (a b : Int) : PyData.eqv (.int a) (.int b) = decide (a = b) := en_int.eq a b
theorem en_wish : En eW 1 := ⟨fun w => shp_tuple (n := 0) fun d hd => by
    simp only [List.mem_cons, List.not_mem_nil, or_false] at hd
    rcases hd with h | h | h | h <;> (rw [h]; exact shp_int _), fun a b => by
    obtain ⟨a1, a2, a3, a4⟩ := a
    obtain ⟨b1, b2, b3, b4⟩ := b
    simp only [PyData.eqv, PyData.eqvAll]
    rw [Bool.eq_iff_iff]
    simp [and_assoc]⟩
theorem en_obj : En eO 1 := ⟨fun w => shp_tuple (n := 0) fun d hd => by
    simp only [List.mem_cons, List.not_mem_nil, or_false] at hd
    rcases hd with h | h | h | h <;> (rw [h]; exact shp_int _), fun a b => by
    obtain ⟨a1, a2, a3, a4⟩ := a
    obtain ⟨b1, b2, b3, b4⟩ := b
    simp only [PyData.eqv, PyData.eqvAll]
    rw [Bool.eq_iff_iff]
    simp [and_assoc]⟩
theorem en_T : En eT 1 := en_tup en_int
theorem en_plan : En eP 3 := ⟨fun p => shp_tuple (n := 2) fun d hd => by
    simp only [List.mem_cons, List.not_mem_nil, or_false] at hd
    rcases hd with h | h | h
    · rw [h]; exact (en_T.shp _).mono (by decide)
    · rw [h]; exact (en_tup en_obj).shp _
    · rw [h]; exact (en_tup en_wish).shp _, fun a b => by
    obtain ⟨a1, a2, a3⟩ := a
    obtain ⟨b1, b2, b3⟩ := b
    have h1 := en_T.eq a1 b1
    have h2 := (en_tup en_obj).eq a2 b2
    have h3 := (en_tup en_wish).eq a3 b3
    simp only [PyData.eqv] at h1 h2 h3
    simp only [PyData.eqv, PyData.eqvAll, h1, h2, h3]
    rw [Bool.eq_iff_iff]
    simp⟩
/-! bounds of 3.1 -/
structure Obj.Ok (n : Nat) (o : Obj) : Prop where
  h0 : 0 ≤ o.home
  h1 : o.home < n
  v0 : 1 ≤ o.value
  v1 : o.value ≤ 20
  r0 : 0 ≤ o.rest
  r1 : o.rest ≤ 9
  l0 : 1 ≤ o.light
  l1 : o.light ≤ 40
def Plan.obj (p : Plan) (i : Int) : Obj := p.objects.getD i.toNat ⟨0, 0, 0, 0⟩
def Plan.wish (p : Plan) (i : Int) : Wish := p.wishes.getD i.toNat ⟨0, 0, 0, 0⟩
structure Wish.Ok (p : Plan) (w : Wish) : Prop where
  h0 : 0 ≤ w.house
  h1 : w.house < p.houses.length
  i0 : 0 ≤ w.item
  i1 : w.item < p.objects.length
  ne : (p.obj w.item).home ≠ w.house
  f0 : 0 ≤ w.first
  fl : w.first ≤ w.last
  l1 : w.last ≤ 60
structure Plan.Ok (p : Plan) : Prop where
  h1 : 1 ≤ p.houses.length
  h4 : p.houses.length ≤ 4
  hs : ∀ x ∈ p.houses, 0 ≤ x ∧ x ≤ 40
  o1 : 1 ≤ p.objects.length
  o4 : p.objects.length ≤ 4
  os : ∀ o ∈ p.objects, o.Ok p.houses.length
  w8 : p.wishes.length ≤ 8
  ws : ∀ w ∈ p.wishes, w.Ok p
/-- some wishes of a plan: ascending numbers -/
def asc : List Int → Bool
  | a :: b :: r => decide (a < b) && asc (b :: r)
  | _ => true
structure SomeOk (p : Plan) (s : List Int) : Prop where
  lo : ∀ x ∈ s, 0 ≤ x
  hi : ∀ x ∈ s, x < p.wishes.length
  as : asc s = true
/-! at a place -/
theorem at_nat {α : Type} {e : α → PyData} {xs : List α} {i : Int} (dflt : α) (h0 : 0 ≤ i) (h1 : i < xs.length) : atI (xs.map e) i = some (e (xs.getD i.toNat dflt)) := by
  obtain ⟨j, rfl⟩ : ∃ j : Nat, i = j := ⟨i.toNat, by omega⟩
  have hj : j < xs.length := by omega
  have e1 : ((j : Int)).toNat = j := by simp
  refine atI_nat ?_
  rw [List.getElem?_map, List.getElem?_eq_getElem hj, e1]
  simp [List.getD, List.getElem?_eq_getElem hj]
theorem Plan.at_obj {p : Plan} {i : Int} (h0 : 0 ≤ i) (h1 : i < p.objects.length) : atI (p.objects.map eO) i = some (eO (p.obj i)) := at_nat _ h0 h1
theorem Plan.at_wish {p : Plan} {i : Int} (h0 : 0 ≤ i) (h1 : i < p.wishes.length) : atI (p.wishes.map eW) i = some (eW (p.wish i)) := at_nat _ h0 h1
theorem getD_mem {α : Type} {xs : List α} {i : Int} (d : α) (h0 : 0 ≤ i) (h1 : i < xs.length) : xs.getD i.toNat d ∈ xs := by
  have hj : i.toNat < xs.length := by omega
  rw [List.getD, List.getElem?_eq_getElem hj]
  exact List.getElem_mem hj
theorem Plan.obj_mem {p : Plan} {i : Int} (h0 : 0 ≤ i) (h1 : i < p.objects.length) : p.obj i ∈ p.objects := getD_mem _ h0 h1
theorem Plan.wish_mem {p : Plan} {i : Int} (h0 : 0 ≤ i) (h1 : i < p.wishes.length) : p.wish i ∈ p.wishes := getD_mem _ h0 h1
end Mus

namespace Mus
open PySem PySem.Spec PyProof.Rows L2 PL
/-! ## mirrors: plans.py -/
def inRange (d : PyData) (lo hi : Int) : Bool := match d with
  | .int i => decide (lo ≤ i) && decide (i ≤ hi)
  | _ => false
def isBetween (d : PyData) (lo hi : Int) : Bool := PL.isInt d && (!isBool d && inRange d lo hi)
theorem isBetween_int (i lo hi : Int) : isBetween (.int i) lo hi = (decide (lo ≤ i) && decide (i ≤ hi)) := rfl
theorem isBetween_of {d : PyData} {lo hi : Int} (h : isBetween d lo hi = true) : ∃ i, d = .int i ∧ lo ≤ i ∧ i ≤ hi := by
  cases d with
  | int i =>
    rw [isBetween_int, Bool.and_eq_true, decide_eq_true_iff, decide_eq_true_iff] at h
    exact ⟨i, rfl, h.1, h.2⟩
  | _ => simp [isBetween, PL.isInt, isBool] at h
def isObjD (houses : Int) (d : PyData) : Bool := match d with
  | .tuple [a, b, c, e] => isBetween a 0 (houses - 1) && (isBetween b 1 20 && (isBetween c 0 9 && isBetween e 1 40))
  | _ => false
def homeD : PyData → PyData
  | .tuple (a :: _) => a
  | _ => .none
def toI : PyData → Int
  | .int i => i
  | _ => 0
/-- objects: a list of things that are objects -/
def isWishD (houses : Int) (objects : List PyData) (d : PyData) : Bool := match d with
  | .tuple [a, b, c, e] => isBetween a 0 (houses - 1) && (isBetween b 0 ((objects.length : Int) - 1) && (!PyData.eqv (homeD (objects.getD (toI b).toNat .none)) a && (isBetween e 0 60 && isBetween c 0 (toI e))))
  | _ => false
def isPlanD (d : PyData) : Bool := match d with
  | .tuple [.tuple hs, .tuple os, .tuple ws] => (decide (1 ≤ hs.length) && decide (hs.length ≤ 4)) && ((hs.all fun x => isBetween x 0 40) && ((decide (1 ≤ os.length) && decide (os.length ≤ 4)) && ((os.all fun x => isObjD hs.length x) && (decide (ws.length ≤ 8) && ws.all fun x => isWishD hs.length os x))))
  | _ => false
def areSome (p : Plan) (d : PyData) : Bool := match d with
  | .tuple ds => (ds.all fun x => isBetween x 0 ((p.wishes.length : Int) - 1)) && asc (ds.map toI)
  | _ => false
def doRest (a b : Wish) (r : Int) : Bool := decide (b.last + r < a.first) || decide (a.last + r < b.first)
def weeksOf (ws : List Wish) (item : Int) : Int := ((ws.filter fun w => decide (w.item = item)).map fun w => w.last - w.first + 1).sum
def thereIn (ws : List Wish) (h k : Int) : List Wish := ws.filter fun w => decide (w.house = h) && (decide (w.first ≤ k) && decide (k ≤ w.last))
def valueAt (p : Plan) (ws : List Wish) (h k : Int) : Int := ((thereIn ws h k).map fun w => (p.obj w.item).value).sum
def named (p : Plan) (s : List Int) : List Wish := s.map p.wish
def InRng (p : Plan) (s : List Int) : Prop := ∀ x ∈ s, 0 ≤ x ∧ x < p.wishes.length
/-- wishes, as tuples, that may be judged -/
structure WsOk (p : Plan) (ws : List Wish) : Prop where
  it : ∀ w ∈ ws, 0 ≤ w.item ∧ w.item < p.objects.length
  len : ws.length ≤ 16
def tiredB (p : Plan) (a b : Wish) : Bool := decide (a.item = b.item) && !doRest a b (p.obj a.item).rest
def wAt (ws : List Wish) (i : Int) : Wish := ws.getD i.toNat ⟨0, 0, 0, 0⟩
def tiredRow (p : Plan) (ws : List Wish) (a : Wish) (i : Int) : List Int := (rangeD (i + 1) ((ws.length : Int) - (i + 1)).toNat).filter fun t => tiredB p a (wAt ws t)
def tired (p : Plan) (ws : List Wish) : List (Int × Int) := ws.zipIdx.flatMap fun x => (tiredRow p ws x.1 x.2).map fun t => ((x.2 : Int), t)
def bleached (p : Plan) (ws : List Wish) : List Int := (rangeD 0 p.objects.length).filter fun i => decide ((p.obj i).light < weeksOf ws i)
def crowdRow (p : Plan) (ws : List Wish) (limit h : Int) : List Int := (rangeD 0 61).filter fun k => decide (limit < valueAt p ws h k)
def crowded (p : Plan) (ws : List Wish) : List (Int × Int) := p.houses.zipIdx.flatMap fun x => (crowdRow p ws x.1 x.2).map fun k => ((x.2 : Int), k)
def houseBad (p : Plan) (ws : List Wish) (limit h : Int) : Bool := ((ws.filter fun w => decide (w.house = h)).map fun w => w.first).any fun k => decide (limit < valueAt p ws h k)
def areGood (p : Plan) (ws : List Wish) : Bool := !(!(tired p ws).isEmpty || !(bleached p ws).isEmpty) && p.houses.zipIdx.all fun x => !houseBad p ws x.1 x.2
inductive Reason where
  | light (i : Int)
  | rest (a b : Int)
  | value (h k : Int)
  deriving DecidableEq
def eR : Reason → PyData
  | .light i => .tuple [.str "light", .int i]
  | .rest a b => .tuple [.str "rest", .int a, .int b]
  | .value h k => .tuple [.str "value", .int h, .int k]
def atZ (s : List Int) (i : Int) : Int := s.getD i.toNat 0
def reasonsOf (p : Plan) (s : List Int) : List Reason := (bleached p (named p s)).map Reason.light ++ (tired p (named p s)).map (fun x => .rest (atZ s x.1) (atZ s x.2)) ++ (crowded p (named p s)).map fun x => .value x.1 x.2
/-! what is known of plans that are plans -/
theorem isObj_ok {n : Nat} {o : Obj} (h : o.Ok n) : isObjD n (eO o) = true := by
  obtain ⟨a, b, c, d, e, f, g, i⟩ := h
  simp only [isObjD, isBetween_int, Bool.and_eq_true, decide_eq_true_eq]
  omega
theorem isWish_ok {p : Plan} {w : Wish} (h : w.Ok p) : isWishD p.houses.length (p.objects.map eO) (eW w) = true := by
  obtain ⟨a, b, c, d, e, f, g, i⟩ := h
  have hj : w.item.toNat < p.objects.length := by omega
  have e1 : (p.objects.map eO).getD w.item.toNat .none = eO (p.obj w.item) := by
    unfold Plan.obj
    simp [List.getD, List.getElem?_map, List.getElem?_eq_getElem hj]
  simp only [isWishD, isBetween_int, toI, e1, homeD, eqI, List.length_map, Bool.and_eq_true, decide_eq_true_eq, Bool.not_eq_true', decide_eq_false_iff_not]
  exact ⟨by omega, by omega, e, by omega, by omega⟩
theorem isPlan_ok {p : Plan} (h : p.Ok) : isPlanD (eP p) = true := by
  obtain ⟨a, b, c, d, e, f, g, i⟩ := h
  simp only [isPlanD, List.length_map, List.all_map, Bool.and_eq_true, decide_eq_true_eq]
  refine ⟨⟨a, b⟩, ?_, ⟨d, e⟩, ?_, g, ?_⟩
  · refine List.all_eq_true.mpr fun x hx => ?_
    rw [Function.comp, isBetween_int, Bool.and_eq_true, decide_eq_true_iff, decide_eq_true_iff]
    exact c x hx
  · exact List.all_eq_true.mpr fun x hx => isObj_ok (f x hx)
  · exact List.all_eq_true.mpr fun x hx => isWish_ok (i x hx)
theorem map_toI (s : List Int) : (s.map PyData.int).map toI = s := by
  rw [List.map_map]
  exact (List.map_congr_left fun x _ => rfl).trans (List.map_id s)
theorem areSome_ok {p : Plan} {s : List Int} (h : SomeOk p s) : areSome p (eT s) = true := by
  simp only [areSome, map_toI, Bool.and_eq_true]
  refine ⟨?_, h.as⟩
  rw [List.all_map]
  refine List.all_eq_true.mpr fun x hx => ?_
  rw [Function.comp, isBetween_int, Bool.and_eq_true, decide_eq_true_iff, decide_eq_true_iff]
  exact ⟨h.lo x hx, by have := h.hi x hx; omega⟩
theorem SomeOk.rng {p : Plan} {s : List Int} (h : SomeOk p s) : InRng p s := fun x hx => ⟨h.lo x hx, h.hi x hx⟩
theorem named_ok {p : Plan} {s : List Int} (hp : p.Ok) (h : InRng p s) (hl : s.length ≤ 16) : WsOk p (named p s) := by
  refine ⟨fun w hw => ?_, by unfold named; rw [List.length_map]; exact hl⟩
  obtain ⟨x, hx, rfl⟩ := List.mem_map.mp hw
  have h1 := hp.ws _ (p.wish_mem (h x hx).1 (h x hx).2)
  exact ⟨h1.i0, h1.i1⟩
theorem asc_tail {a : Int} {l : List Int} (h : asc (a :: l) = true) : asc l = true := by
  cases l with
  | nil => rfl
  | cons b r =>
    simp only [asc, Bool.and_eq_true] at h
    exact h.2
theorem asc_lt {a : Int} : ∀ {l : List Int}, asc (a :: l) = true → ∀ x ∈ l, a < x
  | [], _, x, hx => by cases hx
  | b :: r, h, x, hx => by
    simp only [asc, Bool.and_eq_true, decide_eq_true_eq] at h
    rcases List.mem_cons.mp hx with e | e
    · rw [e]; exact h.1
    · have := asc_lt h.2 x e
      omega
theorem asc_len : ∀ (l : List Int) (lo : Int) (n : Nat), asc l = true → (∀ x ∈ l, lo ≤ x ∧ x < lo + n) → l.length ≤ n
  | [], _, _, _, _ => Nat.zero_le _
  | a :: l, lo, n, h, hb => by
    have h1 := hb a List.mem_cons_self
    cases n with
    | zero => omega
    | succ n =>
      have h2 := asc_len l (lo + 1) n (asc_tail h) fun x hx => ⟨by have := asc_lt h x hx; omega, by have := (hb x (List.mem_cons_of_mem _ hx)).2; omega⟩
      rw [List.length_cons]; omega
theorem SomeOk.len {p : Plan} {s : List Int} (h : SomeOk p s) : s.length ≤ p.wishes.length := asc_len s 0 _ h.as fun x hx => ⟨h.lo x hx, by have := h.hi x hx; omega⟩
/-! sizes -/
theorem zipIdx_flatMap_len {α β : Type} (c : Nat) (f : α × Nat → List β) : ∀ (l : List α) (k : Nat), (∀ x, (f x).length ≤ c) → ((l.zipIdx k).flatMap f).length ≤ l.length * c
  | [], k, h => by simp
  | a :: l, k, h => by
    have ih := zipIdx_flatMap_len c f l (k + 1) h
    have h1 := h (a, k)
    rw [List.zipIdx_cons, List.flatMap_cons, List.length_append, List.length_cons, Nat.succ_mul]
    omega
end Mus

namespace Mus
open PySem PySem.Spec PyProof.Rows L2 PL
/-! ## contracts: plans.py -/
abbrev eLW (ws : List Wish) : PyData := .list (ws.map eW)
abbrev eII (x : Int × Int) : PyData := .tuple [.int x.1, .int x.2]
def eOpt {α : Type} (e : α → PyData) : Option α → PyData
  | none => .none
  | some a => e a
abbrev c_is_between : Ct := ⟨PyData × Int × Int, fun a => [a.1, .int a.2.1, .int a.2.2], fun _ => True, fun a => Eq (.bool (isBetween a.1 a.2.1 a.2.2))⟩
abbrev c_is_ascending : Ct := ⟨List Int, fun a => [eT a], fun _ => True, fun a => Eq (.bool (asc a))⟩
abbrev c_is_object : Ct := ⟨Int × PyData, fun a => [.int a.1, a.2], fun _ => True, fun a => Eq (.bool (isObjD a.1 a.2))⟩
abbrev c_is_wish : Ct := ⟨Int × List PyData × PyData, fun a => [.int a.1, .tuple a.2.1, a.2.2], fun a => ∀ o ∈ a.2.1, isObjD a.1 o = true, fun a => Eq (.bool (isWishD a.1 a.2.1 a.2.2))⟩
abbrev c_is_plan : Ct := ⟨PyData, fun a => [a], fun _ => True, fun a => Eq (.bool (isPlanD a))⟩
abbrev c_check_plan : Ct := ⟨Plan, fun a => [eP a], fun a => a.Ok, fun _ => Eq .none⟩
abbrev c_are_some : Ct := ⟨Plan × PyData, fun a => [eP a.1, a.2], fun _ => True, fun a => Eq (.bool (areSome a.1 a.2))⟩
abbrev c_check_some : Ct := ⟨Plan × List Int, fun a => [eP a.1, eT a.2], fun a => a.1.Ok ∧ SomeOk a.1 a.2, fun _ => Eq .none⟩
abbrev c_do_rest : Ct := ⟨Wish × Wish × Int, fun a => [eW a.1, eW a.2.1, .int a.2.2], fun _ => True, fun a => Eq (.bool (doRest a.1 a.2.1 a.2.2))⟩
abbrev c_weeks_of : Ct := ⟨List Wish × Int, fun a => [eLW a.1, .int a.2], fun _ => True, fun a => Eq (.int (weeksOf a.1 a.2))⟩
abbrev c_value_at : Ct := ⟨Plan × List Wish × Int × Int, fun a => [eP a.1, eLW a.2.1, .int a.2.2.1, .int a.2.2.2], fun a => WsOk a.1 a.2.1, fun a => Eq (.int (valueAt a.1 a.2.1 a.2.2.1 a.2.2.2))⟩
abbrev c_named : Ct := ⟨Plan × List Int, fun a => [eP a.1, eT a.2], fun a => InRng a.1 a.2, fun a => Eq (eLW (named a.1 a.2))⟩
abbrev c_tired : Ct := ⟨Plan × List Wish, fun a => [eP a.1, eLW a.2], fun a => WsOk a.1 a.2, fun a => Eq (.list ((tired a.1 a.2).map eII))⟩
abbrev c_bleached : Ct := ⟨Plan × List Wish, fun a => [eP a.1, eLW a.2], fun a => a.1.Ok, fun a => Eq (.list ((bleached a.1 a.2).map PyData.int))⟩
abbrev c_crowded : Ct := ⟨Plan × List Wish, fun a => [eP a.1, eLW a.2], fun a => a.1.Ok ∧ WsOk a.1 a.2, fun a => Eq (.list ((crowded a.1 a.2).map eII))⟩
abbrev c_are_good : Ct := ⟨Plan × List Wish, fun a => [eP a.1, eLW a.2], fun a => a.1.Ok ∧ WsOk a.1 a.2, fun a => Eq (.bool (areGood a.1 a.2))⟩
abbrev c_is_good : Ct := ⟨Plan × List Int, fun a => [eP a.1, eT a.2], fun a => a.1.Ok ∧ SomeOk a.1 a.2, fun a => Eq (.bool (areGood a.1 (named a.1 a.2)))⟩
abbrev c_reasons_of : Ct := ⟨Plan × List Int, fun a => [eP a.1, eT a.2], fun a => a.1.Ok ∧ SomeOk a.1 a.2, fun a => Eq (.list ((reasonsOf a.1 a.2).map eR))⟩
abbrev c_reasons : Ct := ⟨Plan × List Int, fun a => [eP a.1, eT a.2], fun a => a.1.Ok ∧ SomeOk a.1 a.2, fun a => Eq (.tuple ((reasonsOf a.1 a.2).map eR))⟩
abbrev c_first_reason : Ct := ⟨Plan × List Int, fun a => [eP a.1, eT a.2], fun a => a.1.Ok ∧ SomeOk a.1 a.2, fun a => Eq (eOpt eR (reasonsOf a.1 a.2).head?)⟩
def G_LAST (mg : Str → Option Value) : Prop := ∃ t, mg "LAST" = some (.int 60 t)
theorem isTup_of {d : PyData} (h : isTup d = true) : ∃ ds, d = .tuple ds := by
  cases d with
  | tuple ds => exact ⟨ds, rfl⟩
  | _ => cases h
theorem zip_int (ns : List Int) : zipD (ns.map PyData.int) (cutD (ns.map PyData.int) (some 1) none) = (ns.zip (ns.drop 1)).map eII := by
  rw [cutD_1, ← List.map_drop]
  unfold zipD
  rw [List.zipWith_map, List.zip, List.map_zipWith]
theorem asc_zip : ∀ ns : List Int, ((ns.zip (ns.drop 1)).map fun x => decide (x.1 < x.2)).all id = asc ns
  | [] => rfl
  | [_] => rfl
  | a :: b :: r => by
    have ih := asc_zip (b :: r)
    simp only [List.drop_succ_cons, List.drop_zero] at ih ⊢
    rw [List.zip_cons_cons, List.map_cons, List.all_cons, ih]
    rfl
theorem len3 {α : Type} {l : List α} (h : l.length = 3) : ∃ a b c, l = [a, b, c] := by
  match l, h with
  | [a, b, c], _ => exact ⟨a, b, c, rfl⟩
theorem len4 {α : Type} {l : List α} (h : l.length = 4) : ∃ a b c d, l = [a, b, c, d] := by
  match l, h with
  | [a, b, c, d], _ => exact ⟨a, b, c, d, rfl⟩
theorem all_toI {lo hi : Int} : ∀ {ds : List PyData}, (ds.all fun x => isBetween x lo hi) = true → ds = (ds.map toI).map PyData.int
  | [], _ => rfl
  | d :: ds, h => by
    rw [List.all_cons, Bool.and_eq_true] at h
    obtain ⟨i, rfl, _⟩ := isBetween_of h.1
    rw [List.map_cons, List.map_cons, ← all_toI h.2]
    rfl
theorem filter_step {α β : Type} {l : List α} {i : Nat} {x : α} {g : α → Bool} {f : α → β} (h : l[i]? = some x) : ((l.take (i + 1)).filter g).map f = ((l.take i).filter g).map f ++ (if g x = true then [f x] else []) := by
  rw [take_succ h, List.filter_append, List.map_append]
  congr 1
  by_cases c : g x = true
  · rw [if_pos c, List.filter_cons_of_pos c]; rfl
  · rw [if_neg c, List.filter_cons_of_neg c]; rfl
theorem flatMap_step {α β : Type} {l : List α} {i : Nat} {x : α} {f : α → List β} (h : l[i]? = some x) : (l.take (i + 1)).flatMap f = (l.take i).flatMap f ++ f x := by
  rw [take_succ h, List.flatMap_append]
  simp
theorem tiredRow_len (p : Plan) (ws : List Wish) (a : Wish) (i : Int) (h : 0 ≤ i) : (tiredRow p ws a i).length ≤ ws.length := by
  unfold tiredRow
  refine Nat.le_trans (List.length_filter_le ..) ?_
  rw [rangeD_len]
  omega
theorem crowdRow_len (p : Plan) (ws : List Wish) (a i : Int) : (crowdRow p ws a i).length ≤ 61 := by
  unfold crowdRow
  refine Nat.le_trans (List.length_filter_le ..) ?_
  rw [rangeD_len]
  exact Nat.le_refl _
theorem tired_pre_len (p : Plan) (ws : List Wish) (hl : ws.length ≤ 16) (i : Nat) : ((ws.zipIdx.take i).flatMap fun x => (tiredRow p ws x.1 x.2).map fun t => ((x.2 : Int), t)).length ≤ 256 := by
  have h : ∀ l : List (Wish × Nat), (l.flatMap fun x => (tiredRow p ws x.1 x.2).map fun t => ((x.2 : Int), t)).length ≤ l.length * 16 := by
    intro l
    induction l with
    | nil => simp
    | cons a l ih =>
      rw [List.flatMap_cons, List.length_append, List.length_map, List.length_cons, Nat.succ_mul]
      have := tiredRow_len p ws a.1 a.2 (by omega)
      omega
  refine Nat.le_trans (h _) ?_
  have h2 : (ws.zipIdx.take i).length ≤ 16 := by
    rw [List.length_take, List.length_zipIdx]; omega
  omega
theorem crowded_pre_len (p : Plan) (ws : List Wish) (hl : p.houses.length ≤ 4) (i : Nat) : ((p.houses.zipIdx.take i).flatMap fun x => (crowdRow p ws x.1 x.2).map fun k => ((x.2 : Int), k)).length ≤ 244 := by
  have h : ∀ l : List (Int × Nat), (l.flatMap fun x => (crowdRow p ws x.1 x.2).map fun k => ((x.2 : Int), k)).length ≤ l.length * 61 := by
    intro l
    induction l with
    | nil => simp
    | cons a l ih =>
      rw [List.flatMap_cons, List.length_append, List.length_map, List.length_cons, Nat.succ_mul]
      have := crowdRow_len p ws a.1 a.2
      omega
  refine Nat.le_trans (h _) ?_
  have h2 : (p.houses.zipIdx.take i).length ≤ 4 := by
    rw [List.length_take, List.length_zipIdx]; omega
  omega
theorem zipIdx_get {α : Type} {l : List α} {i : Nat} {x : α × Nat} (h : l.zipIdx[i]? = some x) : l[i]? = some x.1 ∧ x.2 = i := by
  rw [List.getElem?_zipIdx] at h
  cases q : l[i]? with
  | none => rw [q] at h; cases h
  | some y =>
    rw [q] at h
    have e := Option.some.inj h
    rw [← e]
    exact ⟨rfl, by simp⟩
theorem rangeD_mem {lo : Int} {n : Nat} {t : Int} : t ∈ rangeD lo n ↔ lo ≤ t ∧ t < lo + n := by
  unfold rangeD
  rw [List.mem_map]
  constructor
  · rintro ⟨k, hk, rfl⟩
    rw [List.mem_range] at hk
    omega
  · rintro ⟨h1, h2⟩
    exact ⟨(t - lo).toNat, by rw [List.mem_range]; omega, by omega⟩
theorem wAt_nat {ws : List Wish} {i : Nat} {w : Wish} (h : ws[i]? = some w) : wAt ws (i : Int) = w := by
  have h2 : ((i : Int)).toNat = i := by simp
  unfold wAt
  rw [h2, List.getD, h]; rfl
theorem map_get {α β : Type} {f : α → β} {l : List α} {i : Nat} {d : β} (h : (l.map f)[i]? = some d) : ∃ x, l[i]? = some x ∧ f x = d := by
  rw [List.getElem?_map] at h
  cases q : l[i]? with
  | none => rw [q] at h; cases h
  | some x => rw [q] at h; exact ⟨x, rfl, Option.some.inj h⟩
theorem en_II : En eII 1 := ⟨fun w => shp_tuple (n := 0) fun d hd => by
    simp only [List.mem_cons, List.not_mem_nil, or_false] at hd
    rcases hd with h | h <;> (rw [h]; exact shp_int _), fun a b => by
    obtain ⟨a1, a2⟩ := a
    obtain ⟨b1, b2⟩ := b
    simp only [PyData.eqv, PyData.eqvAll]
    rw [Bool.eq_iff_iff]
    simp⟩
theorem shp_light : Shp 0 (.str "light") := shp_str _ (by decide +kernel)
theorem shp_rest : Shp 0 (.str "rest") := shp_str _ (by decide +kernel)
theorem shp_value : Shp 0 (.str "value") := shp_str _ (by decide +kernel)
theorem sne1 : (("light" : Str) == "rest") = false := by decide +kernel
theorem sne2 : (("light" : Str) == "value") = false := by decide +kernel
theorem sne3 : (("rest" : Str) == "value") = false := by decide +kernel
theorem sne4 : (("rest" : Str) == "light") = false := by decide +kernel
theorem sne5 : (("value" : Str) == "light") = false := by decide +kernel
theorem sne6 : (("value" : Str) == "rest") = false := by decide +kernel
theorem shp_R (r : Reason) : Shp 1 (eR r) := by
  have l2 : ∀ {x y : PyData}, Shp 0 x → Shp 0 y → Shp 1 (.tuple [x, y]) := fun {x y} h1 h2 => shp_tuple (n := 0) fun d hd => by
    simp only [List.mem_cons, List.not_mem_nil, or_false] at hd
    rcases hd with h | h
    · rw [h]; exact h1
    · rw [h]; exact h2
  have l3 : ∀ {x y z : PyData}, Shp 0 x → Shp 0 y → Shp 0 z → Shp 1 (.tuple [x, y, z]) := fun {x y z} h1 h2 h3 => shp_tuple (n := 0) fun d hd => by
    simp only [List.mem_cons, List.not_mem_nil, or_false] at hd
    rcases hd with h | h | h
    · rw [h]; exact h1
    · rw [h]; exact h2
    · rw [h]; exact h3
  cases r with
  | light i => exact l2 shp_light (shp_int _)
  | rest a b => exact l3 shp_rest (shp_int _) (shp_int _)
  | value a b => exact l3 shp_value (shp_int _) (shp_int _)
theorem eqv_R (a b : Reason) : PyData.eqv (eR a) (eR b) = decide (a = b) := by
  cases a <;> cases b <;> simp only [eR, PyData.eqv, PyData.eqvAll, sne1, sne2, sne3, sne4, sne5, sne6, Bool.false_and, Bool.and_false] <;> rw [Bool.eq_iff_iff] <;> simp
theorem en_R : En eR 1 := ⟨shp_R, eqv_R⟩
theorem SomeOk.wsok {p : Plan} {s : List Int} (h : SomeOk p s) (hp : p.Ok) : WsOk p (named p s) := named_ok hp h.rng (by have := h.len; have := hp.w8; omega)
theorem bleached_len (p : Plan) (ws : List Wish) (h : p.Ok) : (bleached p ws).length ≤ 4 := by
  unfold bleached
  refine Nat.le_trans (List.length_filter_le ..) ?_
  rw [rangeD_len]; exact h.o4
theorem tired_len (p : Plan) (ws : List Wish) (h : ws.length ≤ 16) : (tired p ws).length ≤ 256 := by
  have := tired_pre_len p ws h ws.length
  rw [List.take_of_length_le (by rw [List.length_zipIdx]; exact Nat.le_refl _)] at this
  exact this
theorem crowded_len (p : Plan) (ws : List Wish) (h : p.houses.length ≤ 4) : (crowded p ws).length ≤ 244 := by
  have := crowded_pre_len p ws h p.houses.length
  rw [List.take_of_length_le (by rw [List.length_zipIdx]; exact Nat.le_refl _)] at this
  exact this
theorem tired_mem {p : Plan} {ws : List Wish} {x : Int × Int} (h : x ∈ tired p ws) : 0 ≤ x.1 ∧ x.1 < x.2 ∧ x.2 < ws.length ∧ tiredB p (wAt ws x.1) (wAt ws x.2) = true := by
  unfold tired at h
  rw [List.mem_flatMap] at h
  obtain ⟨y, hy, hx⟩ := h
  obtain ⟨i, hi⟩ := List.getElem?_of_mem hy
  obtain ⟨h1, h2⟩ := zipIdx_get hi
  rw [List.mem_map] at hx
  obtain ⟨t, ht, rfl⟩ := hx
  unfold tiredRow at ht
  rw [List.mem_filter] at ht
  have hr := rangeD_mem.mp ht.1
  refine ⟨by show 0 ≤ ((y.2 : Nat) : Int); omega, by show ((y.2 : Nat) : Int) < t; omega, by show t < _; omega, ?_⟩
  rw [h2] at ht ⊢
  rw [wAt_nat h1]
  exact ht.2
theorem tired_rng {p : Plan} {s : List Int} {ws : List Wish} (hw : named p s = ws) {x : Int × Int} (h : x ∈ tired p ws) : 0 ≤ x.1 ∧ x.1 < s.length ∧ 0 ≤ x.2 ∧ x.2 < s.length := by
  obtain ⟨h1, h2, h3, _⟩ := tired_mem h
  have e : ws.length = s.length := by rw [← hw]; unfold named; rw [List.length_map]
  omega
end Mus

namespace PL
open PySem PySem.Spec PyProof.Rows L2

/-! ## the script, the town of draws -/
theorem Ex.sqL {K : PySem.W.Frag} {H H' : Hp} {a : Addr} {xs : List V} (e : Ex H H') (h : SqL K H a xs) : SqL K H' a xs := by
  rcases h with (h | ⟨o, h⟩) | h
  · exact .inl (.inl (e _ _ h))
  · exact .inl (.inr ⟨o, e _ _ h⟩)
  · exact .inr h
/-- the script: a list of at most 63 ints that is only read -/
def scr (K : PySem.W.Frag) (a : Addr) (ns : List Int) : Mt where
  fp := []
  P := fun Hm _ v => v = .ref a ∧ SqL K Hm a (ns.map V.int) ∧ ns.length ≤ 63
  mono := fun h e _ => ⟨h.1, e.sqL h.2.1, h.2.2⟩
  al := fun _ a ha => nomatch ha
abbrev kC : Key := Sum.inr (Str.ofString "count")
abbrev kR : Key := Sum.inr (Str.ofString "rests")
abbrev tnK (c : Int) (r : Addr) : List (Key × V) := [(kC, V.int c), (kR, V.ref r)]
structure TownOk (c : Int) (kvs : List (Key × V)) : Prop where
  nd : (kvs.map (·.1)).Nodup
  ks : ∀ k ∈ kvs.map (·.1), ∃ i : Nat, k = .inl (i : Int) ∧ i < 63
  vs : ∀ kv ∈ kvs, ∃ i, kv.2 = .int i
theorem nodup_lt : ∀ (n : Nat) (l : List Nat), l.Nodup → (∀ x ∈ l, x < n) → l.length ≤ n
  | 0, l, _, h => by
    cases l with
    | nil => exact Nat.le_refl _
    | cons a l => exact absurd (h a List.mem_cons_self) (Nat.not_lt_zero _)
  | n + 1, l, nd, h => by
    have h1 := nodup_lt n (l.filter (fun x => decide (x ≠ n))) (nd.filter _) fun x hx => by
      have a := h x (List.mem_filter.mp hx).1
      have b := of_decide_eq_true (List.mem_filter.mp hx).2
      omega
    have h2 : l.length ≤ (l.filter (fun x => decide (x ≠ n))).length + 1 := by
      clear h1 h
      induction l with
      | nil => simp
      | cons a l ih =>
        obtain ⟨q1, q2⟩ := List.nodup_cons.mp nd
        by_cases e : a = n
        · subst e
          have : l.filter (fun x => decide (x ≠ a)) = l := List.filter_eq_self.mpr fun x hx => decide_eq_true fun z => q1 (z ▸ hx)
          rw [List.filter_cons_of_neg (by simp), this, List.length_cons]
          exact Nat.le_refl _
        · rw [List.filter_cons_of_pos (by simp [e]), List.length_cons, List.length_cons]
          have := ih q2
          omega
    omega
theorem TownOk.len {c : Int} {kvs : List (Key × V)} (h : TownOk c kvs) : kvs.length ≤ 63 := by
  have f : ∀ (l : List Key), l.Nodup → (∀ k ∈ l, ∃ i : Nat, k = .inl (i : Int) ∧ i < 63) → ∃ m : List Nat, m.Nodup ∧ m.length = l.length ∧ (∀ x ∈ m, x < 63) ∧ ∀ x ∈ m, (Sum.inl (x : Int) : Key) ∈ l := by
    intro l
    induction l with
    | nil => exact fun _ _ => ⟨[], List.nodup_nil, rfl, by simp, by simp⟩
    | cons a l ih =>
      intro nd h
      obtain ⟨q1, q2⟩ := List.nodup_cons.mp nd
      obtain ⟨m, m1, m2, m3, m4⟩ := ih q2 fun k hk => h k (List.mem_cons_of_mem _ hk)
      obtain ⟨i, rfl, hi⟩ := h a List.mem_cons_self
      refine ⟨i :: m, List.nodup_cons.mpr ⟨fun z => q1 (m4 i z), m1⟩, by simp [m2], fun x hx => ?_, fun x hx => ?_⟩
      · rcases List.mem_cons.mp hx with e | e
        · rw [e]; exact hi
        · exact m3 x e
      · rcases List.mem_cons.mp hx with e | e
        · rw [e]; exact List.mem_cons_self
        · exact List.mem_cons_of_mem _ (m4 x e)
  obtain ⟨m, m1, m2, m3, _⟩ := f _ h.nd h.ks
  have := nodup_lt 63 m m1 m3
  rw [m2, List.length_map] at this
  exact this
def twn (t r : Addr) : Mt where
  fp := [t, r]
  P := fun _ H v => v = .ref t ∧ t ≠ r ∧ ∃ c kvs, H t = some (.dK (tnK c r)) ∧ H r = some (.dK kvs) ∧ TownOk c kvs
  mono := fun h _ k => by
    obtain ⟨h1, h2, c, kvs, h3, h4, h5⟩ := h
    exact ⟨h1, h2, c, kvs, (k _ (by simp)).trans h3, (k _ (by simp)).trans h4, h5⟩
  al := fun h a ha => by
    obtain ⟨h1, h2, c, kvs, h3, h4, h5⟩ := h
    rcases List.mem_cons.mp ha with e | e
    · rw [e, h3]; exact fun z => nomatch z
    · rw [List.mem_singleton.mp e, h4]; exact fun z => nomatch z

/-! ## slots of things that change -/
theorem Sl.updMt {Hm Hm' H H' : Hp} (em : Ex Hm Hm') : ∀ {ρ : List SD} {σ : Sg} {as : List Addr} {i : Nat} {m : Mt}, Sl Hm H ρ σ as → ρ[i]? = some (.mt m) → (∀ a ∈ as, a ∉ m.fp → H' a = H a) → (∀ v, σ[i]? = some (some v) → m.P Hm' H' v) → Sl Hm' H' ρ σ as
  | [], _, _, i, _, _, h, _, _ => by simp at h
  | s :: ρ, σ, as, 0, m, h, e, k, p => by
    have e' : s = .mt m := Option.some.inj e
    subst e'
    cases h with
    | mt a1 a2 h1 => exact .mt (p _ rfl) a2 (h1.mono em fun b hb => k b (List.mem_append_right _ hb) fun z => a2 b z hb)
  | s :: ρ, σ, as, i + 1, m, h, e, k, p => by
    have e' : ρ[i]? = some (.mt m) := by simpa using e
    cases h with
    | un h1 => exact .un (Sl.updMt em h1 e' k fun v hv => p v (by simpa using hv))
    | dat r h1 => exact .dat (r.mono em) (Sl.updMt em h1 e' k fun v hv => p v (by simpa using hv))
    | own a1 a2 a3 a4 h1 =>
      obtain ⟨v, q1, q2, q3⟩ := h1.getM e'
      refine .own ?_ a2 (a3.mono em) a4 (Sl.updMt em h1 e' (fun b hb hn => k b (List.mem_cons_of_mem _ hb) hn) fun v hv => p v (by simpa using hv))
      rw [k _ List.mem_cons_self fun z => a4 (q3 _ z)]
      exact a1
    | mt a1 a2 h1 =>
      rename_i bs v' m'
      obtain ⟨v, q1, q2, q3⟩ := h1.getM e'
      exact .mt (m'.mono a1 em fun b hb => k b (List.mem_append_left _ hb) fun z => a2 b hb (q3 b z)) a2 (Sl.updMt em h1 e' (fun b hb hn => k b (List.mem_append_right _ hb) hn) fun v hv => p v (by simpa using hv))
theorem SA.getM {F H : Hp} {O0 O1 : List Addr} {ρ : List SD} {σ : Sg} {i : Nat} {m : Mt} (s : SA F O0 O1 ρ σ H) (e : ρ[i]? = some (.mt m)) : ∃ v, σ[i]? = some (some v) ∧ m.P (msk (O1 ++ O0) H) H v ∧ ∀ a ∈ m.fp, a ∈ O1 := s.sl.getM e
/-- m has changed, nothing else -/
theorem SA.updMt {F H H' : Hp} {O0 O1 : List Addr} {ρ : List SD} {σ : Sg} {i : Nat} {m : Mt} (s : SA F O0 O1 ρ σ H) (e : ρ[i]? = some (.mt m)) (k : Ex (msk m.fp H) H') (p : ∀ v, σ[i]? = some (some v) → m.P (msk (O1 ++ O0) H') H' v) : SA F O0 O1 ρ σ H' ∧ Ex (msk (O1 ++ O0) H) (msk (O1 ++ O0) H') := by
  obtain ⟨v, q1, q2, q3⟩ := s.getM e
  have em : Ex (msk (O1 ++ O0) H) (msk (O1 ++ O0) H') := fun a o h => by
    obtain ⟨z1, z2⟩ := msk_some h
    rw [msk_out z1]
    exact k a o (by rw [msk_out fun w => z1 (List.mem_append_left _ (q3 a w))]; exact z2)
  refine ⟨⟨fun a o h => ?_, s.sl.updMt em e (fun a ha hn => ?_) p, s.new, fun a ha => ?_⟩, em⟩
  · have hn : a ∉ m.fp := fun z => by rw [(s.new a (q3 a z)).1] at h; cases h
    exact k a o (by rw [msk_out hn]; exact s.fr a o h)
  · cases q : H a with
    | none => exact absurd q (s.sl.al a ha)
    | some o => exact k a o (by rw [msk_out hn]; exact q)
  · have hn : a ∉ m.fp := fun z => (s.new a (q3 a z)).2 ha
    intro z
    cases q : H a with
    | none => exact s.al0 a ha q
    | some o => rw [k a o (by rw [msk_out hn]; exact q)] at z; cases z

/-! ## expressions whose value is open -/
def II (C : Int → Prop) : PyData → Prop := fun d => ∃ i, d = .int i ∧ C i
section
variable {X : Cx} {ρ : List SD} {a b c : Expr} {es : List Expr} {d : PyData} {A B D : PyData → Prop} {pos p : Pos} {x : Str} {P Q R : Int → Prop}
theorem evn_pure (h : Ev X ρ a d) (hd : D d) : EvN X ρ a D := evn_imp h fun d' e => by subst e; exact hd
theorem evn_int (h : Ev X ρ a (.int i)) (hd : P i) : EvN X ρ a (II P) := evn_pure h ⟨_, rfl, hd⟩
theorem evn_opI {op : Operator} {C : Int → Int → Prop} {g : Int → Int → Int} (ho : OpR X (binaryOp op) (rI C fun i j => .int (g i j))) (ha : EvN X ρ a (II P)) (hb : EvN X ρ b (II Q)) (h : ∀ i j, P i → Q j → C i j ∧ R (g i j)) : EvN X ρ (.BinOp a op b pos) (II R) :=
  evn_bin ho ha hb fun da db ⟨i, e1, h1⟩ ⟨j, e2, h2⟩ => by
    subst e1; subst e2
    intro O H x y Qv al hx hy k
    cases hx; cases hy
    exact ⟨i, j, rfl, rfl, (h i j h1 h2).1, k.here ⟨_, rfl, (h i j h1 h2).2⟩ (.int _)⟩
theorem evn_opI0 {op : Operator} {g : Int → Int → Int} (ho : OpR X (binaryOp op) (rI0 fun i j => .int (g i j))) (ha : EvN X ρ a (II P)) (hb : EvN X ρ b (II Q)) (h : ∀ i j, P i → Q j → R (g i j)) : EvN X ρ (.BinOp a op b pos) (II R) :=
  evn_bin ho ha hb fun da db ⟨i, e1, h1⟩ ⟨j, e2, h2⟩ => by
    subst e1; subst e2
    intro O H x y Qv al hx hy k
    cases hx; cases hy
    exact ⟨i, j, rfl, rfl, k.here ⟨_, rfl, h i j h1 h2⟩ (.int _)⟩
theorem evn_add (ha : EvN X ρ a (II P)) (hb : EvN X ρ b (II Q)) (h : ∀ i j, P i → Q j → R (i + j)) : EvN X ρ (.BinOp a .Add b pos) (II R) := evn_opI0 op_add ha hb h
theorem evn_sub (ha : EvN X ρ a (II P)) (hb : EvN X ρ b (II Q)) (h : ∀ i j, P i → Q j → R (i - j)) : EvN X ρ (.BinOp a .Sub b pos) (II R) := evn_opI0 op_sub ha hb h
theorem evn_mul (ha : EvN X ρ a (II P)) (hb : EvN X ρ b (II Q)) (h : ∀ i j, P i → Q j → CMul i j ∧ R (i * j)) : EvN X ρ (.BinOp a .Mult b pos) (II R) := evn_opI op_mul ha hb h
theorem evn_mod (ha : EvN X ρ a (II P)) (hb : EvN X ρ b (II Q)) (h : ∀ i j, P i → Q j → 0 < j ∧ R (i % j)) : EvN X ρ (.BinOp a .Mod b pos) (II R) := evn_opI (C := fun _ j => 0 < j) op_mod ha hb h
theorem evn_fdiv (ha : EvN X ρ a (II P)) (hb : EvN X ρ b (II Q)) (h : ∀ i j, P i → Q j → CDiv i j ∧ R (i / j)) : EvN X ρ (.BinOp a .FloorDiv b pos) (II R) := evn_opI op_fdiv ha hb h
theorem evn_pow (ha : EvN X ρ a (II P)) (hb : EvN X ρ b (II Q)) (h : ∀ i j, P i → Q j → CPow i j ∧ R (i ^ j.toNat)) : EvN X ρ (.BinOp a .Pow b pos) (II R) := evn_opI op_pow ha hb h
theorem evn_if {Bp : Bool → Prop} (hc : PT X c (tT ρ Bp)) (ha : Bp true → EvN X ρ a D) (hb : Bp false → EvN X ρ b D) : EvN X ρ (.IfExp c a b pos) D := by
  refine ⟨fun pins s σ H Q I ⟨F, O0, O1, st, q⟩ => ?_⟩
  refine wpAny_IfExp (thn (hc.run pins s σ H (fun b H' => Bp b ∧ tP ρ D σ H' Q) I ⟨F, O0, O1, st, fun b H' s' e' hd => ⟨hd, F, O0, O1, s', fun v d H2 s2 e2 => q v d H2 s2 (e'.trans e2)⟩⟩) fun z s1 ⟨H1, I1, hz, q1⟩ => ?_)
  cases z with
  | true => exact (ha hz).run pins s1 σ H1 Q I1 q1
  | false => exact (hb hz).run pins s1 σ H1 Q I1 q1
/-- a comparison of ints, its answer open -/
theorem etn_cmpI {op : CmpOp} {g : Int → Int → Bool} (ho : OpR X (compareOp op) (rI0 fun i j => .bl (g i j))) (ha : EvN X ρ a (II P)) (hb : EvN X ρ b (II Q)) (hm : behindInMarks op b = false) : PT X (.Compare a [op] [b] pos) (tT ρ fun k => ∃ i j, P i ∧ Q j ∧ k = g i j) :=
  pt_imp (pt_cmpR ho ha hb hm) fun σ H Qv ⟨F, O0, O1, s, q⟩ => tOp_of (D := fun d => ∃ i j, P i ∧ Q j ∧ d = .bool (g i j)) (fun da db ⟨i, e1, h1⟩ ⟨j, e2, h2⟩ => by
    subst e1; subst e2
    intro O H x y Qv al hx hy k
    cases hx; cases hy
    exact ⟨i, j, rfl, rfl, k.here ⟨i, j, h1, h2, rfl⟩ (.bl _)⟩) σ H _ ⟨F, O0, O1, s, fun v d H' s' e' ⟨i, j, h1, h2, hd⟩ r => by
    subst hd; cases r
    exact ⟨_, rfl, q _ H' s' e' ⟨i, j, h1, h2, rfl⟩⟩⟩
theorem etn_eqI (hr : Room n X.A) (ha : EvN X ρ a (II P)) (hb : EvN X ρ b (II Q)) : PT X (.Compare a [.Eq] [b] pos) (tT ρ fun k => ∃ i j, P i ∧ Q j ∧ k = decide (i = j)) :=
  pt_imp (pt_cmpR op_eq ha hb (nomark _)) fun σ H Qv ⟨F, O0, O1, s, q⟩ => tOp_of (D := fun d => ∃ i j, P i ∧ Q j ∧ d = .bool (decide (i = j))) (fun da db ⟨i, e1, h1⟩ ⟨j, e2, h2⟩ => by
    subst e1; subst e2
    intro O H x y Qv al hx hy k
    cases hx; cases hy
    refine ⟨rfl, ?_⟩
    have e : decide (V.int i = V.int j) = decide (i = j) := by rw [Bool.eq_iff_iff]; simp
    rw [e]
    exact k.here ⟨i, j, h1, h2, rfl⟩ (.bl _)) σ H _ ⟨F, O0, O1, s, fun v d H' s' e' ⟨i, j, h1, h2, hd⟩ r => by
    subst hd; cases r
    exact ⟨_, rfl, q _ H' s' e' ⟨i, j, h1, h2, rfl⟩⟩⟩
/-! the script -/
variable {K : PySem.W.Frag} {sa t r : Addr} {ns : List Int} {i j : Nat}
theorem pe_mt {m : Mt} (hi : X.N[i]? = some x) (hv : Vis X.env.scope x) (h1 : (x == ("__debug__" : Str)) = false := by decide) (h2 : (x == ("__classdict__" : Str)) = false := by decide) : PE X (.Name x pos) (tVar i) := pe_var hi hv h1 h2
/-- if script: is it empty -/
theorem et_scr (i : Nat) (hs : ρ[i]? = some (.mt (scr X.K sa ns)) := by rfl) (hi : X.N[i]? = some x := by rfl) (hv : Vis X.env.scope x := by first | exact Or.inl rfl | exact Or.inr (Or.inl rfl) | exact Or.inr (Or.inr rfl))
    (h1 : (x == ("__debug__" : Str)) = false := by decide) (h2 : (x == ("__classdict__" : Str)) = false := by decide) (he : ∀ whole, isTrue (.Name x pos) X.env whole = (do let v ← whole; standAt (Expr.Name x pos).pos; holding [v] (truthy v)) := by intro _; rfl) : EvT X ρ (.Name x pos) (!ns.isEmpty) :=
  pt_imp (pt_truth (pe_var hi hv h1 h2) he) fun σ H Q ⟨F, O0, O1, s, q⟩ => by
    obtain ⟨v, e1, ⟨e2, e3, e4⟩, _⟩ := s.getM hs
    subst e2
    refine ⟨_, e1, !ns.isEmpty, .inl ⟨_, Ex.unmsk.sqL e3, ?_⟩, q _ H s (Ex.refl _) rfl⟩
    cases ns <;> rfl
theorem ev_scrLen (i : Nat) (hs : ρ[i]? = some (.mt (scr X.K sa ns)) := by rfl) (hg : Gl X "len") (hm : X.mg "len" = none) (hi : X.N[i]? = some x := by rfl) (hv : Vis X.env.scope x := by first | exact Or.inl rfl | exact Or.inr (Or.inl rfl) | exact Or.inr (Or.inr rfl))
    (h1 : (x == ("__debug__" : Str)) = false := by decide) (h2 : (x == ("__classdict__" : Str)) = false := by decide) (he : starEach [Expr.Name x pos] X.env = (false, eval (.Name x pos) X.env) :: starEach [] X.env := by rfl) : Ev X ρ (.Call (.Name "len" p) [.Name x pos] [] pos') (.int (ns.length : Nat)) :=
  pe_imp (pe_callB call_len_seq hg hm PySem.boot_len (pa_cons (pe_var hi hv h1 h2) pa_nil he) (by decide) (by decide) he rfl) fun σ H Q ⟨F, O0, O1, s, q⟩ => by
    obtain ⟨v, e1, ⟨e2, e3, e4⟩, _⟩ := s.getM hs
    subst e2
    refine ⟨_, e1, _, _, rfl, .inl (Ex.unmsk.sqL e3), ?_⟩
    rw [List.length_map]
    exact q _ _ H s (Ex.refl _) rfl (.int _)
theorem evn_scrAt (i : Nat) (hs : ρ[i]? = some (.mt (scr X.K sa ns)) := by rfl) (hb : EvN X ρ b (II fun k => 0 ≤ k ∧ k < ns.length)) (hp : PlainIx b := by exact fun _ _ => rfl) (hi : X.N[i]? = some x := by rfl) (hv : Vis X.env.scope x := by first | exact Or.inl rfl | exact Or.inr (Or.inl rfl) | exact Or.inr (Or.inr rfl))
    (h1 : (x == ("__debug__" : Str)) = false := by decide) (h2 : (x == ("__classdict__" : Str)) = false := by decide) : EvN X ρ (.Subscript (.Name x pos) b pos') (II fun _ => True) :=
  pe_imp (pe_ix ix_list (pe_var hi hv h1 h2) hb hp) fun σ H Q ⟨F, O0, O1, s, q⟩ => by
    obtain ⟨v, e1, _⟩ := s.getM hs
    refine ⟨_, e1, F, O0, O1, s, fun v' d H' s' e' ⟨k, hd, hk⟩ r => ?_⟩
    subst hd; cases r
    obtain ⟨v2, e2, ⟨e3, e4, e5⟩, _⟩ := s'.getM hs
    rw [e1] at e2
    cases e2
    subst e3
    have hj : k.toNat < ns.length := by omega
    refine ⟨sa, ns.map V.int, k, .int ns[k.toNat], rfl, rfl, Ex.unmsk.sqL e4, ?_, q _ _ H' s' e' ⟨_, rfl, trivial⟩ (.int _)⟩
    have hg : (ns.map V.int)[k.toNat]? = some (V.int ns[k.toNat]) := by
      rw [List.getElem?_map, List.getElem?_eq_getElem hj]; rfl
    have q := atI_nat hg
    rw [show ((k.toNat : Nat) : Int) = k from by omega] at q
    exact q
/-! the town -/
variable {n : Nat}
theorem town_get {F H : Hp} {O0 O1 : List Addr} {σ : Sg} (s : SA F O0 O1 ρ σ H) (hs : ρ[j]? = some (.mt (twn t r))) : σ[j]? = some (some (.ref t)) ∧ t ≠ r ∧ t ∈ O1 ∧ r ∈ O1 ∧ ∃ c kvs, H t = some (.dK (tnK c r)) ∧ H r = some (.dK kvs) ∧ TownOk c kvs := by
  obtain ⟨v, e1, ⟨e2, e3, e4⟩, e5⟩ := s.getM hs
  subst e2
  exact ⟨e1, e3, e5 t (by simp [twn]), e5 r (by simp [twn]), e4⟩
theorem key_ne : ¬ (kC = kR) := by decide +kernel
theorem val_count {c : Int} {r : Addr} : valV (tnK c r) kC = some (.int c) := valV_pos rfl
theorem val_rests {c : Int} {r : Addr} : valV (tnK c r) kR = some (.ref r) := (valV_neg key_ne).trans (valV_pos rfl)
theorem put_count {c c' : Int} {r : Addr} : putK (tnK c r) kC (.int c') = (tnK c' r) := by
  have h : ¬ (kR = kC) := fun e => key_ne e.symm
  show (if _ then _ else _) = _
  rw [if_pos (by simp [List.any_cons])]
  show [if kC = kC then (kC, V.int c') else (kC, V.int c), if kR = kC then (kR, V.int c') else (kR, V.ref r)] = _
  rw [if_pos rfl, if_neg h]
/-- town["count"] -/
theorem evn_count (hr : Room n X.A) (j : Nat) {pc : Pos} {jc : Nat} (hs : ρ[j]? = some (.mt (twn t r)) := by rfl) (hns : NoSl (.Constant (.str "count") jc pc) := by exact fun _ _ => rfl) (hi : X.N[j]? = some x := by rfl) (hv : Vis X.env.scope x := by first | exact Or.inl rfl | exact Or.inr (Or.inl rfl) | exact Or.inr (Or.inr rfl))
    (h1 : (x == ("__debug__" : Str)) = false := by decide) (h2 : (x == ("__classdict__" : Str)) = false := by decide) : EvN X ρ (.Subscript (.Name x pos) (.Constant (.str "count") jc pc) pos') (II fun _ => True) :=
  pe_imp (pe_dget (hu_of hr) (pe_var hi hv h1 h2) pe_str hns) fun σ H Q ⟨F, O0, O1, s, q⟩ => by
    obtain ⟨e1, e2, e3, e4, c, kvs, e5, e6, e7⟩ := town_get s hs
    refine ⟨_, e1, t, .int c, rfl, ?_, q _ _ H s (Ex.refl _) ⟨c, rfl, trivial⟩ (.int c)⟩
    have := DGet.k (k := kC) e5
    rw [val_count] at this
    exact this
/-- the town, changed within -/
theorem SA.town {F H : Hp} {O0 O1 : List Addr} {σ : Sg} (s : SA F O0 O1 ρ σ H) (hs : ρ[j]? = some (.mt (twn t r))) {H' : Hp} (k : ∀ a, a ≠ t → a ≠ r → H' a = H a) (p : ∃ c kvs, H' t = some (.dK (tnK c r)) ∧ H' r = some (.dK kvs) ∧ TownOk c kvs) :
    SA F O0 O1 ρ σ H' ∧ Ex (msk (O1 ++ O0) H) (msk (O1 ++ O0) H') := by
  obtain ⟨e1, e2, e3, e4, _⟩ := town_get s hs
  refine s.updMt hs (fun a o h => ?_) fun v hv => ?_
  · obtain ⟨z1, z2⟩ := msk_some h
    rw [k a (fun e => z1 (by rw [e]; simp [twn])) (fun e => z1 (by rw [e]; simp [twn]))]
    exact z2
  · rw [e1] at hv
    cases hv
    exact ⟨rfl, e2, p⟩
/-- town["count"] = an int -/
theorem hs_count {Po : Po} {rest : List Stmt} {value : Expr} {pc spos : Pos} {jc : Nat} {C : Int → Prop} (hr : Room n X.A) (j : Nat) (hs : ρ[j]? = some (.mt (twn t r)) := by rfl) (hval : EvN X ρ value (II C)) (k : HSs X rest ρ Po) (hi : X.N[j]? = some x := by rfl) (hv : Vis X.env.scope x := by first | exact Or.inl rfl | exact Or.inr (Or.inl rfl) | exact Or.inr (Or.inr rfl))
    (h1 : (x == ("__debug__" : Str)) = false := by decide) (h2 : (x == ("__classdict__" : Str)) = false := by decide) (hsw : swapsWith value (some (.Subscript (.Name x pos) (.Constant (.str "count") jc pc) pos')) spos.line X.env = pure false := by rfl) :
    HSs X (.Assign [.Subscript (.Name x pos) (.Constant (.str "count") jc pc) pos'] value spos :: rest) ρ Po :=
  hs_cons (M := (· = ρ)) (ps_imp (ps_dput (hu_of hr) (pe_var hi hv h1 h2) pe_str hval hsw) fun Dn σ H ⟨F, O0, O1, s, nx, rt, bk, ct⟩ => ⟨F, O0, O1, s, fun v d H' s' e' ⟨i, hd, _⟩ rv => by
    subst hd; cases rv
    obtain ⟨e1, e2, e3, e4, c, kvs, e5, e6, e7⟩ := town_get s' hs
    refine ⟨_, e1, t, _, rfl, DPut.k (k := kC) e5 (by show 2 < sizeLine; decide), ?_⟩
    rw [put_count]
    obtain ⟨s2, _⟩ := s'.town hs (H' := upd H' t (.dK (tnK i r))) (fun a h1 _ => upd_ne h1) ⟨i, kvs, upd_same, by rw [upd_ne (Ne.symm e2)]; exact e6, ⟨e7.nd, e7.ks, e7.vs⟩⟩
    exact nx ρ O1 σ _ rfl s2⟩) fun r' z => by subst z; exact k
/-- town["rests"].get(at, d) -/
theorem evn_rest {f e : Expr} {pc cpos apos : Pos} {jc : Nat} (hr : Room n X.A) (j : Nat) (hs : ρ[j]? = some (.mt (twn t r)) := by rfl) (he : EvN X ρ e (II fun _ => True)) (hf : EvN X ρ f (II fun _ => True)) (hns : NoSl (.Constant (.str "rests") jc pc) := by exact fun _ _ => rfl)
    (m : M2 X (.Subscript (.Name x pos) (.Constant (.str "rests") jc pc) pos') "get" apos e f cpos := by exact ⟨rfl, rfl, rfl, rfl⟩) (hi : X.N[j]? = some x := by rfl) (hv : Vis X.env.scope x := by first | exact Or.inl rfl | exact Or.inr (Or.inl rfl) | exact Or.inr (Or.inr rfl))
    (h1 : (x == ("__debug__" : Str)) = false := by decide) (h2 : (x == ("__classdict__" : Str)) = false := by decide) : EvN X ρ (.Call (.Attribute (.Subscript (.Name x pos) (.Constant (.str "rests") jc pc) pos') "get" apos) [e, f] [] cpos) (II fun _ => True) :=
  pe_imp (pe_dget2 (hu_of hr) (pe_dget (hu_of hr) (pe_var hi hv h1 h2) pe_str hns) he hf m) fun σ H Q ⟨F, O0, O1, s, q⟩ => by
    obtain ⟨e1, e2, e3, e4, c, kvs, e5, e6, e7⟩ := town_get s hs
    have g := DGet.k (k := kR) e5
    rw [val_rests] at g
    refine ⟨_, e1, t, .ref r, rfl, g, r, rfl, .inl ⟨kvs, .inl e6⟩, F, O0, O1, s, fun v d H1 s1 em ⟨i, hd, _⟩ rv => ⟨F, O0, O1, s1, fun v2 d2 H2 s2 em2 ⟨i2, hd2, _⟩ rv2 => ?_⟩⟩
    subst hd; cases rv; subst hd2; cases rv2
    obtain ⟨_, _, _, _, c', kvs', e5', e6', e7'⟩ := town_get s2 hs
    refine ⟨_, DGet.k (k := Sum.inl i) e6', ?_⟩
    cases w : valV kvs' (Sum.inl i) with
    | none => exact q _ _ H2 s2 (em.trans em2) ⟨i2, rfl, trivial⟩ (.int _)
    | some v =>
      obtain ⟨z, rfl⟩ : ∃ z, v = .int z := by
        unfold valV at w
        cases fd : (kvs'.find? fun kv => decide (kv.1 = Sum.inl i)) with
        | none => rw [fd] at w; cases w
        | some kv =>
          rw [fd] at w
          obtain ⟨z, hz⟩ := e7'.vs kv (List.mem_of_find?_eq_some fd)
          exact ⟨z, by rw [← hz]; exact (Option.some.inj w).symm⟩
      exact q _ _ H2 s2 (em.trans em2) ⟨z, rfl, trivial⟩ (.int _)
/-- town["rests"][at] = an int -/
theorem hs_rest {Po : Po} {rest : List Stmt} {value e : Expr} {pc spos epos : Pos} {jc : Nat} (hr : Room n X.A) (j : Nat) (hs : ρ[j]? = some (.mt (twn t r)) := by rfl) (hval : EvN X ρ value (II fun _ => True)) (he : EvN X ρ e (II fun k => 0 ≤ k ∧ k < 63)) (k : HSs X rest ρ Po) (hns : NoSl (.Constant (.str "rests") jc pc) := by exact fun _ _ => rfl)
    (hi : X.N[j]? = some x := by rfl) (hv : Vis X.env.scope x := by first | exact Or.inl rfl | exact Or.inr (Or.inl rfl) | exact Or.inr (Or.inr rfl))
    (h1 : (x == ("__debug__" : Str)) = false := by decide) (h2 : (x == ("__classdict__" : Str)) = false := by decide) (hsw : swapsWith value (some (.Subscript (.Subscript (.Name x pos) (.Constant (.str "rests") jc pc) pos') e epos)) spos.line X.env = pure false := by rfl) :
    HSs X (.Assign [.Subscript (.Subscript (.Name x pos) (.Constant (.str "rests") jc pc) pos') e epos] value spos :: rest) ρ Po :=
  hs_cons (M := (· = ρ)) (ps_imp (ps_dput (hu_of hr) (pe_dget (hu_of hr) (pe_var hi hv h1 h2) pe_str hns) he hval hsw) fun Dn σ H ⟨F, O0, O1, s, nx, rt, bk, ct⟩ => ⟨F, O0, O1, s, fun v d H' s' e' ⟨i, hd, _⟩ rv => by
    subst hd; cases rv
    obtain ⟨e1, e2, e3, e4, c, kvs, e5, e6, e7⟩ := town_get s' hs
    have g := DGet.k (k := kR) e5
    rw [val_rests] at g
    refine ⟨_, e1, t, .ref r, rfl, g, F, O0, O1, s', fun v2 d2 H2 s2 em2 ⟨i2, hd2, hk⟩ rv2 => ?_⟩
    subst hd2; cases rv2
    obtain ⟨_, _, _, _, c', kvs', e5', e6', e7'⟩ := town_get s2 hs
    refine ⟨r, _, rfl, DPut.k (k := Sum.inl i2) e6' (Nat.lt_of_le_of_lt e7'.len (by decide)), ?_⟩
    have ok : TownOk c' (putK kvs' (Sum.inl i2) (.int i)) := by
      unfold putK
      split
      · refine ⟨?_, fun k hk' => ?_, fun kv hkv => ?_⟩
        · rw [List.map_map]
          have : ((fun x : Key × V => x.1) ∘ fun kv => if kv.1 = Sum.inl i2 then (kv.1, V.int i) else kv) = fun kv => kv.1 := by
            funext kv
            simp only [Function.comp]
            split <;> rfl
          rw [this]; exact e7'.nd
        · rw [List.map_map] at hk'
          have : ((fun x : Key × V => x.1) ∘ fun kv => if kv.1 = Sum.inl i2 then (kv.1, V.int i) else kv) = fun kv => kv.1 := by
            funext kv
            simp only [Function.comp]
            split <;> rfl
          rw [this] at hk'; exact e7'.ks k hk'
        · obtain ⟨kv', h1, rfl⟩ := List.mem_map.mp hkv
          split
          · exact ⟨i, rfl⟩
          · exact e7'.vs kv' h1
      · rename_i hno
        have hnone : valV kvs' (Sum.inl i2) = none := by
          rw [valV_any] at hno
          cases w : valV kvs' (Sum.inl i2) with
          | none => rfl
          | some _ => rw [w] at hno; exact absurd rfl hno
        refine ⟨?_, fun k hk' => ?_, fun kv hkv => ?_⟩
        · have := nd_putK (V.int i) e7'.nd hnone
          rw [putK_new _ hnone] at this
          exact this
        · rw [List.map_append] at hk'
          rcases List.mem_append.mp hk' with z | z
          · exact e7'.ks k z
          · rw [List.mem_singleton.mp z]
            exact ⟨i2.toNat, by show (Sum.inl i2 : Key) = _; rw [Int.toNat_of_nonneg hk.1], by omega⟩
        · rcases List.mem_append.mp hkv with z | z
          · exact e7'.vs kv z
          · rw [List.mem_singleton.mp z]; exact ⟨i, rfl⟩
    obtain ⟨s3, _⟩ := s2.town hs (H' := upd H2 r (.dK (putK kvs' (Sum.inl i2) (.int i)))) (fun a _ h2 => upd_ne h2) ⟨c', _, by rw [upd_ne e2]; exact e5', upd_same, ok⟩
    exact nx ρ O1 σ _ rfl s3⟩) fun r' z => by subst z; exact k
end

/-! ## defs that draw: script, town, then data -/
def spT (K : PySem.W.Frag) (C : Ct) : Sp := fun vs H Q _ => ∃ (O0 : List Addr) (sa t r : Addr) (ns : List Int) (a : C.A) (us : List V), vs = .ref sa :: .ref t :: us ∧ C.pre a ∧ Al (t :: r :: O0) H ∧ t ∉ O0 ∧ r ∉ O0 ∧ SqL K (msk (t :: r :: O0) H) sa (ns.map V.int) ∧ ns.length ≤ 63 ∧
  (twn t r).P H H (.ref t) ∧ RpA (msk (t :: r :: O0) H) us (C.enc a) ∧
  ∀ v d H', Ex (msk [t, r] H) H' → (twn t r).P H' H' (.ref t) → C.res a d → Rp (msk (t :: r :: O0) H') v d → Q v H'
def DefT (P : Program) (w : World) (K : PySem.W.Frag) (mg : Str → Option Value) (base : Heap) (k : Nat) (x : Str) (ps : List Str) (C : Ct) : Prop :=
  ∃ f fd, FnOk P w K mg base CX0 k f fd ps (spT K C) ∧ mg x = some (.ref f) ∧ PySem.W.keepIn K (.ref f) = true ∧ Kw fd ps
section
variable {P : Program} {w : World} {K : PySem.W.Frag} {mg : Str → Option Value} {base : Heap}
theorem defT_mk {x : Str} {st : Stmt} {f : Addr} {fd : FuncData} {N ps : List Str} {k : Nat} {C : Ct} (A : DefAt K mg x st ps f fd) (S : FnScope N ps (defScope st)) (hl : ∀ a, (C.enc a).length + 2 = ps.length)
    (body : ∀ a sa t r ns, C.pre a → ns.length ≤ 63 → ∀ (cdv : Value) (A : Around) (outer : List Env) (s : Shared) (H : Hp) (E : XK), Room k (A.deeper (envOfC x (defScope st) s.heap.objs.size f cdv)) →
      HSs (cxOf CX0 P w K mg base N x (defScope st) f cdv A outer s H E).nox (defBody st) (.mt (scr K sa ns) :: .mt (twn t r) :: ((C.enc a).map SD.dat ++ List.replicate (N.length - ((C.enc a).length + 2)) SD.un))
        { nx := fun ρ => C.res a .none ∧ ρ[1]? = some (.mt (twn t r)), rt := fun d ρ => C.res a d ∧ ρ[1]? = some (.mt (twn t r)) }) :
    DefT P w K mg base (k + 1) x ps C := by
  refine ⟨f, fd, ?_, A.at_, A.fn.kp, A.kw⟩
  refine A.fn.ok S (fun vs H Q E ⟨O0, sa, t, r, ns, a, us, e, _, _, _, _, _, _, _, r', _⟩ => by rw [e, List.length_cons, List.length_cons, r'.len]; exact hl a) (fun cdv A outer s H vs Q E hr ⟨O0, sa, t, r, ns, a, us, e, hp, al, t0, r0, hS, hn, tw, ra, kt⟩ => ?_)
  have e2 : (msk (t :: r :: O0) H) = msk ([t, r] ++ O0) H := rfl
  refine ⟨_, body a sa t r ns hp hn cdv A outer s H E hr, msk [t, r] H, O0, [t, r], ⟨Ex.unmsk, ?_, fun b hb => ⟨msk_in hb, fun z => ?_⟩, fun b hb => al b (List.mem_cons_of_mem _ (List.mem_cons_of_mem _ hb))⟩, ?_, ?_, fun _ _ _ _ z => z.elim, fun _ _ _ _ z => z.elim⟩
  · rw [e]
    unfold L2.start
    have hst : N.length - (V.ref sa :: V.ref t :: us).length = N.length - ((C.enc a).length + 2) := by rw [List.length_cons, List.length_cons, ra.len]
    rw [hst]
    exact Sl.mt (m := scr K sa ns) ⟨rfl, hS, hn⟩ (fun a ha => by cases ha) (Sl.mt (m := twn t r) tw (fun a _ => by simp) (Sl.start ra))
  · rcases List.mem_cons.mp hb with q | q
    · rw [q] at z; exact t0 z
    · rw [List.mem_singleton.mp q] at z; exact r0 z
  · intro ρ' O1' σ' H' ⟨q1, q2⟩ s'
    obtain ⟨v, g1, g2, g3⟩ := s'.getM q2
    have g2' : (twn t r).P H' H' (.ref t) := by
      obtain ⟨h1, h2, h3⟩ := g2
      exact ⟨rfl, h2, h3⟩
    exact kt .non .none H' s'.fr g2' q1 .non
  · intro v d ρ' O1' σ' H' ⟨q1, q2⟩ s' r'
    obtain ⟨v', g1, g2, g3⟩ := s'.getM q2
    have g2' : (twn t r).P H' H' (.ref t) := by
      obtain ⟨h1, h2, h3⟩ := g2
      exact ⟨rfl, h2, h3⟩
    refine kt v d H' s'.fr g2' q1 (r'.mono (Ex.mskSub fun b hb => ?_))
    rcases List.mem_cons.mp hb with z | z
    · rw [z]; exact List.mem_append_left _ (g3 t (by simp [twn]))
    · rcases List.mem_cons.mp z with z | z
      · rw [z]; exact List.mem_append_left _ (g3 r (by simp [twn]))
      · exact List.mem_append_right _ z
section
variable {X : Cx} {ρ : List SD} {e1 e2 : Expr} {es : List Expr} {x x1 x2 : Str} {p p1 p2 pos : Pos} {k n : Nat} {ps : List Str} {C : Ct} {D : PyData → Prop} {sa t r : Addr} {ns : List Int}
theorem evn_callT {E : List PyData → Prop} (F : DefT X.prog X.w X.K X.mg X.base k x ps C) (i j : Nat) (hr : Room n X.A) (hg : Gl X x) (ha : EvAN X ρ es E) (hG : ∀ ds, E ds → ∃ a, ds = C.enc a ∧ C.pre a ∧ ∀ d, C.res a d → D d) (hs : ρ[i]? = some (.mt (scr X.K sa ns)) := by rfl) (ht : ρ[j]? = some (.mt (twn t r)) := by rfl) (hkn : k ≤ n := by decide)
    (hi : X.N[i]? = some x1 := by rfl) (hv : Vis X.env.scope x1 := by first | exact Or.inl rfl | exact Or.inr (Or.inl rfl) | exact Or.inr (Or.inr rfl)) (hj : X.N[j]? = some x2 := by rfl) (hv2 : Vis X.env.scope x2 := by first | exact Or.inl rfl | exact Or.inr (Or.inl rfl) | exact Or.inr (Or.inr rfl))
    (h1 : (x1 == ("__debug__" : Str)) = false := by decide) (h2 : (x1 == ("__classdict__" : Str)) = false := by decide) (h3 : (x2 == ("__debug__" : Str)) = false := by decide) (h4 : (x2 == ("__classdict__" : Str)) = false := by decide)
    (hdb : (x == ("__debug__" : Str)) = false := by decide) (he : starEach (.Name x1 p1 :: .Name x2 p2 :: es) X.env = (false, eval (.Name x1 p1) X.env) :: starEach (.Name x2 p2 :: es) X.env := by rfl) (he2 : starEach (.Name x2 p2 :: es) X.env = (false, eval (.Name x2 p2) X.env) :: starEach es X.env := by rfl)
    (hpl : (backTo pos (starEach (.Name x2 p2 :: es) X.env)).any (·.1) = false := by rfl) : EvN X ρ (.Call (.Name x p) (.Name x1 p1 :: .Name x2 p2 :: es) [] pos) D := by
  obtain ⟨f, fd, F1, F2, F3, F4⟩ := F
  refine pe_imp (pe_call F1 (hr.mono hkn) hg F2 F3 F4.bd .nil pass0 (pa_cons (pe_var hi hv h1 h2) (pa_cons (pe_var hj hv2 h3 h4) ha he2) he) hdb he hpl) fun σ H Q ⟨F, O0, O1, s, q⟩ => ?_
  obtain ⟨v, g1, ⟨g2, g3, g4⟩, _⟩ := s.getM hs
  subst g2
  obtain ⟨e1, _⟩ := town_get s ht
  refine ⟨_, g1, _, e1, F, O0, O1, s, fun vs ds H1 s1 em hd r1 => ?_⟩
  show spT X.K C ((V.ref sa :: V.ref t :: vs) ++ []) H1 Q E0
  rw [List.append_nil]
  obtain ⟨a, rfl, hp, hD⟩ := hG ds hd
  obtain ⟨v2, g5, ⟨g6, g7, g8⟩, _⟩ := s1.getM hs
  obtain ⟨e1', e2, e3, e4, tw⟩ := town_get s1 ht
  have ec : msk (t :: r :: ((O1 ++ O0).filter fun b => decide (b ≠ t ∧ b ≠ r))) = msk (O1 ++ O0) := by
    funext H
    refine msk_congr (fun b => ?_) H
    rw [List.mem_cons, List.mem_cons, List.mem_filter, decide_eq_true_iff]
    constructor
    · rintro (z | z | z)
      · rw [z]; exact List.mem_append_left _ e3
      · rw [z]; exact List.mem_append_left _ e4
      · exact z.1
    · intro z
      by_cases c1 : b = t
      · exact .inl c1
      · by_cases c2 : b = r
        · exact .inr (.inl c2)
        · exact .inr (.inr ⟨z, c1, c2⟩)
  refine ⟨(O1 ++ O0).filter fun b => decide (b ≠ t ∧ b ≠ r), sa, t, r, ns, a, vs, rfl, hp, fun b hb => ?_, fun z => ?_, fun z => ?_, ?_, g8, ⟨rfl, e2, tw⟩, ?_, fun v d H' ex tw' hd' rp => ?_⟩
  · rcases List.mem_cons.mp hb with z | z
    · rw [z]; exact s1.al t (List.mem_append_left _ e3)
    · rcases List.mem_cons.mp z with z | z
      · rw [z]; exact s1.al r (List.mem_append_left _ e4)
      · exact s1.al b (List.mem_filter.mp z).1
  · exact (of_decide_eq_true (List.mem_filter.mp z).2).1 rfl
  · exact (of_decide_eq_true (List.mem_filter.mp z).2).2 rfl
  · rw [ec]; exact g7
  · rw [ec]; exact r1
  · rw [ec] at rp
    obtain ⟨s2, em2⟩ := s1.updMt ht ex fun v hv' => by
      rw [e1'] at hv'
      cases hv'
      exact ⟨rfl, tw'.2.1, tw'.2.2⟩
    exact q v d H' s2 (em.trans em2) (hD d hd') rp
end
end
end PL

namespace PL
open PySem PySem.Spec PyProof.Rows L2

section
variable {X : Cx} {ρ : List SD} {elt tg iter : Expr} {ifs : List Expr} {scope : Scope} {pos p : Pos} {a b : Expr} {es : List Expr} {D : PyData → Prop}
theorem pt_imps {es : List Expr} {B B' : Bool → Prop} (h : PTs X es (tT ρ B)) (k : ∀ b, B b → B' b) : PTs X es (tT ρ B') := pts_imp h fun σ H Q ⟨F, O0, O1, s, q⟩ => ⟨F, O0, O1, s, fun b H' s' e' hb => q b H' s' e' (k b hb)⟩
theorem pt_impt {e : Expr} {B B' : Bool → Prop} (h : PT X e (tT ρ B)) (k : ∀ b, B b → B' b) : PT X e (tT ρ B') := pt_imp h fun σ H Q ⟨F, O0, O1, s, q⟩ => ⟨F, O0, O1, s, fun b H' s' e' hb => q b H' s' e' (k b hb)⟩
/-- a comprehension over a known list, its answers open -/
theorem Lc.mkN {α : Type} {xs : List α} {enc : α → PyData} (B : α → Bool → Prop) (G : α → PyData → Prop) (Pv : List α → List PyData → Prop) (own : List (Str × Nat)) (ρt : α → List SD) (hi : EvI X ρ tg iter (xs.map enc)) (ok : BlkOk X.N X.env.scope scope own) (hp : (own.map (·.2)).all (plainAt ρ) = true)
    (hg : ∀ x ∈ xs, ∀ (s : Shared) (H : Hp) (C : Addr) (cl : List (Str × Addr)) (fp : List Addr), EvG (X.blk s H scope (compEnvC scope cl C X.env) fp) tg (wipeD ρ (own.map (·.2))) (enc x) (ρt x) (own.map (·.2)))
    (hw : ∀ x ∈ xs, wipeD (ρt x) (own.map (·.2)) = wipeD ρ (own.map (·.2))) (hp' : ∀ x ∈ xs, (own.map (·.2)).all (plainAt (ρt x)) = true)
    (ht : ∀ x ∈ xs, ∀ (s : Shared) (H : Hp) (C : Addr) (cl : List (Str × Addr)) (fp : List Addr), PTs (X.blk s H scope (compEnvC scope cl C X.env) fp) ifs (tT (ρt x) (B x)))
    (he : ∀ x ∈ xs, B x true → ∀ (s : Shared) (H : Hp) (C : Addr) (cl : List (Str × Addr)) (fp : List Addr), EvN (X.blk s H scope (compEnvC scope cl C X.env) fp) (ρt x) elt (G x))
    (h0 : Pv [] []) (h1 : ∀ l x es z, x ∈ xs → Pv l es → B x true → G x z → Pv (l ++ [x]) (es ++ [z])) (h2 : ∀ l x es, x ∈ xs → Pv l es → B x false → Pv (l ++ [x]) es) :
    Lc X ρ elt tg iter ifs scope own (Eq (xs.map enc)) (fun _ i b => ∃ x, xs[i]? = some x ∧ B x b) (fun _ i d => ∃ x, xs[i]? = some x ∧ G x d) (fun _ i => match xs[i]? with | some x => ρt x | none => []) (fun _ i es => Pv (xs.take i) es) := by
  have mem : ∀ {i : Nat} {x : α}, xs[i]? = some x → x ∈ xs := fun h => List.mem_of_getElem? h
  have here : ∀ {i : Nat} {d : PyData}, (xs.map enc)[i]? = some d → ∃ x, xs[i]? = some x ∧ enc x = d := fun {i d} h => by
    rw [List.getElem?_map] at h
    cases q : xs[i]? with
    | none => rw [q] at h; cases h
    | some x => rw [q] at h; exact ⟨x, rfl, Option.some.inj h⟩
  have tk : ∀ {i : Nat} {x : α}, xs[i]? = some x → xs.take (i + 1) = xs.take i ++ [x] := fun {i x} h => by
    rw [List.take_add_one, h]; rfl
  refine ⟨hi, ok, fun i hi => List.all_eq_true.mp hp i hi, fun ds i d hE hd => ?_, fun ds i d hE hd => ?_, fun ds i d hE hd => ?_, fun ds i d hE hd => ?_, fun ds i d hE hd hB => ?_, fun ds _ => h0, fun ds i es z hE hl pv hB hG => ?_, fun ds i es hE hl pv hB => ?_⟩
  · subst hE; obtain ⟨x, hx, rfl⟩ := here hd; rw [hx]; exact hg x (mem hx)
  · subst hE; obtain ⟨x, hx, rfl⟩ := here hd; rw [hx]; exact hw x (mem hx)
  · subst hE; obtain ⟨x, hx, rfl⟩ := here hd; rw [hx]; exact fun j hj => List.all_eq_true.mp (hp' x (mem hx)) j hj
  · subst hE; obtain ⟨x, hx, rfl⟩ := here hd; rw [hx]
    intro s H C cl fp
    refine pts_imp (ht x (mem hx) s H C cl fp) fun σ H Q ⟨F, O0, O1, s, k⟩ => ⟨F, O0, O1, s, fun b H' s' e' hb => k b H' s' e' ⟨x, rfl, hb⟩⟩
  · subst hE; obtain ⟨x, hx, rfl⟩ := here hd; obtain ⟨x', hx', hb⟩ := hB
    rw [hx] at hx'; cases hx'
    rw [hx]
    intro s H C cl fp
    exact evn_imp (he x (mem hx) hb s H C cl fp) fun d hd => ⟨x, rfl, hd⟩
  · obtain ⟨x, hx, hb⟩ := hB; obtain ⟨x', hx', hz⟩ := hG
    rw [hx] at hx'; cases hx'
    rw [tk hx]; exact h1 _ x es z (mem hx) pv hb hz
  · obtain ⟨x, hx, hb⟩ := hB
    rw [tk hx]; exact h2 _ x es (mem hx) pv hb
theorem evn_lcN (hc : X.calm = true) (hN : X.N.Nodup) {α : Type} {xs : List α} {enc : α → PyData} {Pv : List α → List PyData → Prop} {own : List (Str × Nat)} {ρ' : List PyData → Nat → List SD} {B G}
    (L : Lc X ρ elt tg iter ifs scope own (Eq (xs.map enc)) B G ρ' (fun _ i es => Pv (xs.take i) es)) (hD : ∀ es, Pv xs es → D (.list es)) (hs : ∀ x, foldedSetIterable iter X.env x = pure x := by intro _; rfl) : EvN X ρ (.ListComp elt [⟨tg, iter, ifs, 0⟩] scope pos) D :=
  evn_of_f (ef_lc hc hN L hs) fun es ⟨ds, e, pv⟩ => by
    subst e
    rw [List.length_map, List.take_length] at pv
    exact hD es pv
theorem evn_lcs {α : Type} (xs : List α) (enc : α → PyData) (B : α → Bool → Prop) (G : α → PyData → Prop) (Pv : List α → List PyData → Prop) (own : List (Str × Nat)) (ρt : α → List SD) (hc : X.calm = true) (hN : X.N.Nodup) (hi : EvI X ρ tg iter (xs.map enc)) (ok : BlkOk X.N X.env.scope scope own) (hp : (own.map (·.2)).all (plainAt ρ) = true)
    (hg : ∀ x ∈ xs, ∀ (s : Shared) (H : Hp) (C : Addr) (cl : List (Str × Addr)) (fp : List Addr), EvG (X.blk s H scope (compEnvC scope cl C X.env) fp) tg (wipeD ρ (own.map (·.2))) (enc x) (ρt x) (own.map (·.2)))
    (hw : ∀ x ∈ xs, wipeD (ρt x) (own.map (·.2)) = wipeD ρ (own.map (·.2))) (hp' : ∀ x ∈ xs, (own.map (·.2)).all (plainAt (ρt x)) = true)
    (ht : ∀ x ∈ xs, ∀ (s : Shared) (H : Hp) (C : Addr) (cl : List (Str × Addr)) (fp : List Addr), PTs (X.blk s H scope (compEnvC scope cl C X.env) fp) ifs (tT (ρt x) (B x)))
    (he : ∀ x ∈ xs, B x true → ∀ (s : Shared) (H : Hp) (C : Addr) (cl : List (Str × Addr)) (fp : List Addr), EvN (X.blk s H scope (compEnvC scope cl C X.env) fp) (ρt x) elt (G x))
    (h0 : Pv [] []) (h1 : ∀ l x es z, x ∈ xs → Pv l es → B x true → G x z → Pv (l ++ [x]) (es ++ [z])) (h2 : ∀ l x es, x ∈ xs → Pv l es → B x false → Pv (l ++ [x]) es)
    (hD : ∀ es, Pv xs es → D (.list es)) (hs : ∀ x, foldedSetIterable iter X.env x = pure x := by intro _; rfl) : EvN X ρ (.ListComp elt [⟨tg, iter, ifs, 0⟩] scope pos) D :=
  evn_lcN (Pv := Pv) hc hN (Lc.mkN B G Pv own ρt hi ok hp hg hw hp' ht he h0 h1 h2) hD hs
theorem cd_imp {r : List V → Hp → VK → Prop} {ds : List PyData} {A B : PyData → Prop} (h : CD r ds A) (k : ∀ d, A d → B d) : CD r ds B := fun O H xs Q al ra kt => h O H xs Q al ra (fun v d H' e hd rp => kt v d H' e (k d hd) rp)
theorem evn_tupleL (hg : Gl X "tuple") (hm : X.mg "tuple" = none) (ha : EvN X ρ a fun d => ∃ es, d = .list es ∧ D (.tuple es)) (hs : starEach [a] X.env = (false, eval a X.env) :: starEach [] X.env := by rfl) : EvN X ρ (.Call (.Name "tuple" p) [a] [] pos) D :=
  evn_callTy call_tuple_of hg hm (by decide +kernel) (ean_cons ha ea_nil hs) (fun ds ⟨d, r, e, ⟨es, e2, hd⟩, e3⟩ => by
    subst e; subst e2; subst e3
    exact cd_imp cd_tuple fun d hd' => by subst hd'; exact hd) (by decide) (by decide) hs rfl
theorem evn_catT {A B : List PyData → Prop} (ha : EvN X ρ a fun d => ∃ xs, d = .tuple xs ∧ A xs) (hb : EvN X ρ b fun d => ∃ ys, d = .tuple ys ∧ B ys) (hl : ∀ xs ys, A xs → B ys → xs.length + ys.length ≤ big ∧ D (.tuple (xs ++ ys))) : EvN X ρ (.BinOp a .Add b pos) D :=
  evn_bin op_catA ha hb fun da db ⟨xs, e1, h1⟩ ⟨ys, e2, h2⟩ => by
    subst e1; subst e2
    obtain ⟨g1, g2⟩ := hl xs ys h1 h2
    intro O H x y Q al hx hy k
    exact od_catT g1 O H x y Q al hx hy fun v d H' e hd rp => k v d H' e (by subst hd; exact g2) rp
theorem ev_pow {i j : Int} (ha : Ev X ρ a (.int i)) (hb : Ev X ρ b (.int j)) (hc : CPow i j) : Ev X ρ (.BinOp a .Pow b pos) (.int (i ^ j.toNat)) := ev_bin op_pow ha hb (od_I hc)
theorem rpA_ints {Hm : Hp} : ∀ ns : List Int, RpA Hm (ns.map V.int) (ns.map PyData.int)
  | [] => .nil
  | n :: ns => .cons (.int n) (rpA_ints ns)
theorem rgV_eq (lo hi : Int) : rgV lo hi = (rangeD lo (hi - lo).toNat).map V.int := by
  unfold rgV rangeD
  rw [List.map_map]; rfl
/-- tuple(range(n)) -/
theorem evn_tupR1 {q : Pos} {A : PyData → Prop} (hc : X.calm = true) (hg : Gl X "tuple") (hm : X.mg "tuple" = none) (hg2 : Gl X "range") (hm2 : X.mg "range" = none) (ha : EvN X ρ a A) (hA : ∀ d, A d → ∃ n : Nat, d = .int n ∧ n ≤ 4096 ∧ D (.tuple ((rangeD 0 n).map PyData.int)))
    (n1 : starEach [a] X.env = (false, eval a X.env) :: starEach [] X.env := by rfl) (n2 : starEach [.Call (.Name "range" p) [a] [] q] X.env = (false, eval (.Call (.Name "range" p) [a] [] q) X.env) :: starEach [] X.env := by rfl) {p2 : Pos} : EvN X ρ (.Call (.Name "tuple" p2) [.Call (.Name "range" p) [a] [] q] [] pos) D :=
  pe_imp (pe_tupRg hc hg hm (prg_1 hg2 hm2 ha n1) n2) fun σ H Q ⟨F, O0, O1, s, k⟩ => ⟨F, O0, O1, s, fun v d H1 s1 e1 hd r => by
    obtain ⟨n, rfl, h1, h2⟩ := hA d hd
    cases r
    refine ⟨n, rfl, RgOk.of_le (by omega) (by omega) (by omega) (by omega), ?_⟩
    rw [rgV_eq]
    have e0 : ((n : Int) - 0).toNat = n := by omega
    rw [e0]
    exact (s1.kt e1 k).tup s1.al h2 (by rw [List.length_map, rangeD_len]; exact h1) (rpA_ints _)⟩
theorem ev_tupR1 {q : Pos} {n : Nat} (hc : X.calm = true) (hg : Gl X "tuple") (hm : X.mg "tuple" = none) (hg2 : Gl X "range") (hm2 : X.mg "range" = none) (ha : Ev X ρ a (.int n)) (hn : n ≤ 4096)
    (n1 : starEach [a] X.env = (false, eval a X.env) :: starEach [] X.env := by rfl) (n2 : starEach [.Call (.Name "range" p) [a] [] q] X.env = (false, eval (.Call (.Name "range" p) [a] [] q) X.env) :: starEach [] X.env := by rfl) {p2 : Pos} : Ev X ρ (.Call (.Name "tuple" p2) [.Call (.Name "range" p) [a] [] q] [] pos) (.tuple ((rangeD 0 n).map PyData.int)) :=
  evn_tupR1 hc hg hm hg2 hm2 ha (fun d e => by subst e; exact ⟨n, rfl, hn, rfl⟩) n1 n2
theorem ein_tup {E : List PyData → Prop} (h : EvN X ρ a fun d => ∃ ds, d = .tuple ds ∧ E ds) : EvIN X ρ tg a E := pi_imp (pi_tup h) fun σ H R ⟨F, O0, O1, s, k⟩ => ⟨F, O0, O1, s, fun v d H1 s1 e1 ⟨ds, hd, he⟩ r => by
  subst hd
  cases r with
  | tup h1 h2 h3 => exact ⟨_, rfl, ⟨_, SqT.of (msk_some h1).2⟩, k _ _ H1 s1 e1 he h2 (wk_tup h1 h3)⟩⟩
theorem ein_list {E : List PyData → Prop} (h : EvN X ρ a fun d => ∃ ds, d = .list ds ∧ E ds) : EvIN X ρ tg a E := pi_imp (pi_list h) fun σ H R ⟨F, O0, O1, s, k⟩ => ⟨F, O0, O1, s, fun v d H1 s1 e1 ⟨ds, hd, he⟩ r => by
  subst hd
  cases r with
  | lst h1 h2 h3 => exact ⟨_, rfl, ⟨_, SqL.of (msk_some h1).2⟩, k _ _ H1 s1 e1 he h2 (wk_list h1 h3)⟩⟩
end

/-! ## the law's own def -/
def spLaw (K : PySem.W.Frag) : Sp := fun vs H Q _ => ∃ (a : Addr) (ns : List Int), vs = [.ref a] ∧ SqL K H a (ns.map V.int) ∧ ns.length ≤ 63 ∧ ∀ H', Q (.bl true) H'
theorem law_mk {P : Program} {w : World} {K : PySem.W.Frag} {mg : Str → Option Value} {base : Heap} {x : Str} {st : Stmt} {f : Addr} {fd : FuncData} {N : List Str} {p : Str} {k : Nat} (A : DefAt K mg x st [p] f fd) (S : FnScope N [p] (defScope st))
    (body : ∀ sa ns, ns.length ≤ 63 → ∀ (cdv : Value) (A : Around) (outer : List Env) (s : Shared) (H : Hp) (E : XK), Room k (A.deeper (envOfC x (defScope st) s.heap.objs.size f cdv)) →
      HSs (cxOf CX0 P w K mg base N x (defScope st) f cdv A outer s H E).nox (defBody st) (.mt (scr K sa ns) :: List.replicate (N.length - 1) SD.un) { nx := fun _ => False, rt := fun d _ => d = .bool true }) : FnOk P w K mg base CX0 (k + 1) f fd [p] (spLaw K) := by
  refine A.fn.ok S (fun vs H Q E ⟨a, ns, e, _⟩ => by rw [e]; rfl) (fun cdv A outer s H vs Q E hr ⟨a, ns, e, hS, hn, k⟩ => ?_)
  refine ⟨_, body a ns hn cdv A outer s H E hr, H, [], [], ⟨Ex.refl _, ?_, fun b hb => (by cases hb), fun b hb => (by cases hb)⟩, fun _ _ _ _ z => z.elim, ?_, fun _ _ _ _ z => z.elim, fun _ _ _ _ z => z.elim⟩
  · rw [e]
    exact Sl.mt (m := scr K a ns) (as := []) ⟨rfl, (by
      have : msk ([] ++ []) H = H := by funext b; rfl
      rw [this]; exact hS), hn⟩ (fun a ha => by cases ha) (Sl.start (vs := []) (ds := []) .nil)
  · intro v d ρ' O1' σ' H' hd s' r'
    subst hd
    cases r'
    exact k H'

/-- while, by an invariant with a measure -/
theorem pt_any {X : Cx} {e : Expr} {A : Type} {T : A → TT} {C : A → Prop} (h : ∀ a, C a → PT X e (T a)) : PT X e (fun σ H Q => ∃ a, C a ∧ T a σ H Q) := ⟨fun pins s σ H Q I ⟨a, ha, q⟩ => (h a ha).run pins s σ H Q I q⟩
theorem hs_while {X : Cx} {ρ : List SD} {P : Po} {rest body : List Stmt} {c : Expr} {pos : Pos} (Iv : Nat → List SD → Prop) (Bk : List SD → Prop) (hp : PassesOwn (model X.prog X.w) X.A X.env X.xe) (m0 : Nat) (h0 : Iv m0 ρ)
    (hb : ∀ m ρ1, Iv m ρ1 → ∃ b, EvT X ρ1 c b ∧ (b = true → HSs X body ρ1 { nx := fun r => ∃ m', m' < m ∧ Iv m' r, rt := P.rt, bk := Bk, ct := fun r => ∃ m', m' < m ∧ Iv m' r }) ∧ (b = false → HSs X rest ρ1 P))
    (hk : ∀ ρ1, Bk ρ1 → HSs X rest ρ1 P) : HSs X (.While c body [] pos :: rest) ρ P := by
  refine hs_cons (M := fun r => HSs X rest r P) ?_ fun r z => z
  have cA : PT X c (fun σ H Q => ∃ a : List SD × Bool, EvT X a.1 c a.2 ∧ tT a.1 (Eq a.2) σ H Q) := pt_any fun a ha => ha
  have bA : PSs X body (fun D σ H => ∃ a : List SD × Po, HSs X body a.1 a.2 ∧ tS a.1 a.2 D σ H) := pss_any fun a ha => ha
  refine ps_imp (ps_while hp cA bA) fun D σ H ⟨F, O0, O1, s, nx, rt, bk, ct⟩ => ⟨fun m σ H => ∃ ρ1 O, Iv m ρ1 ∧ SA F O0 O ρ1 σ H, ⟨m0, ρ, O1, h0, s⟩, ?_⟩
  rintro m σ1 H1 ⟨ρ1, O, iv, s1⟩
  obtain ⟨b, hc, hT, hF⟩ := hb m ρ1 iv
  refine ⟨(ρ1, b), hc, F, O0, O, s1, fun b' H2 s2 e2 hbb => ?_⟩
  subst hbb
  cases b with
  | true =>
    rw [if_pos rfl]
    refine ⟨fun σ' H' => ∃ m', m' < m ∧ ∃ ρ1 O, Iv m' ρ1 ∧ SA F O0 O ρ1 σ' H', fun σ' H' h => h, (ρ1, _), hT rfl, F, O0, O, s2, fun ρ' O' σ' H' ⟨m', l, q⟩ s' => ⟨m', l, ρ', O', q, s'⟩, rt, fun ρ' O' σ' H' q s' => nx ρ' O' σ' H' (hk ρ' q) s', fun ρ' O' σ' H' ⟨m', l, q⟩ s' => ⟨m', l, ρ', O', q, s'⟩⟩
  | false =>
    rw [if_neg Bool.false_ne_true]
    exact nx ρ1 O σ1 H2 (hF rfl) s2
/-- max(i, j), the first open -/
theorem evn_max2 {X : Cx} {ρ : List SD} {a b : Expr} {p pos : Pos} {P R : Int → Prop} {j : Int} (hc : X.calm = true) (hg : Gl X "max") (hm : X.mg "max" = none) (ha : EvN X ρ a (II P)) (hb : Ev X ρ b (.int j)) (h : ∀ i, P i → R (if j > i then j else i)) (he : starEach [a, b] X.env = (false, eval a X.env) :: starEach [b] X.env := by rfl) (he2 : starEach [b] X.env = (false, eval b X.env) :: starEach [] X.env := by rfl) (hpl : (backTo pos (starEach [b] X.env)).any (·.1) = false := by rfl) :
    EvN X ρ (.Call (.Name "max" p) [a, b] [] pos) (II R) :=
  evn_callB (call_max2 hc) hg hm (by decide +kernel) (ean_cons ha (ea_cons hb ea_nil he2) he) (fun ds ⟨d, r, e, ⟨i, hd, hi⟩, e3⟩ => by
    subst e; subst hd; subst e3
    intro O H xs Q al r k
    obtain ⟨v, w, rfl, r1, r2⟩ := rpA2 r
    cases r1; cases r2
    exact ⟨i, j, rfl, k.here ⟨_, rfl, h i hi⟩ (.int _)⟩) (by decide) (by decide) he hpl
/-- any targets = a value that is open -/
theorem hs_asgN {X : Cx} {ρ : List SD} {P : Po} {rest : List Stmt} {tg e : Expr} {pos : Pos} {E : PyData → Prop} (he : EvN X ρ e E) (k : ∀ d, E d → ∃ ρ1 js, EvG X tg ρ d ρ1 js ∧ HSs X rest ρ1 P) (hs : swapsWithSole [tg] e pos.line X.env = pure false := by rfl) (hw : swappedStores [tg] e X.env = pure none := by rfl)
    (h1 : (assignEach [tg] X.env).map (·.2) = [assign tg X.env] := by rfl) : HSs X (.Assign [tg] e pos :: rest) ρ P := by
  have gA : PG X tg (fun v σ H Q => ∃ a : List SD × PyData × List SD × List Nat, EvG X tg a.1 a.2.1 a.2.2.1 a.2.2.2 ∧ tG a.1 a.2.1 a.2.2.1 a.2.2.2 v σ H Q) := pg_any fun a ha => ha
  exact hs_cons (M := fun r => HSs X rest r P) (ps_imp (ps_asg he gA hs hw h1) fun Dn σ H ⟨F, O0, O1, s, a, b, k', t⟩ => ⟨F, O0, O1, s, fun v d H' s' e' hd r => by
    obtain ⟨ρ1, js, g, hk⟩ := k d hd
    exact ⟨(ρ, d, ρ1, js), g, F, O0, O1, s', r, fun σ' _ s2 => a ρ1 O1 σ' H' hk s2⟩⟩) fun r z => z
/-- a comprehension within a comprehension: its block -/
def relS (scope sc : Scope) : Scope :=
  { scope with names := scope.names.map fun (n, k) => if (k == .free && sc.kind == .function && sc.names.lookup n == some .cell) then (n, .cell) else (n, k) }
theorem blkOk_in {N : List Str} {sc0 sc1 scope : Scope} {own : List (Str × Nat)} {env : Env} (he : env.scope = sc0) (h : blkC N (relS sc1 sc0) scope own = true) : BlkOk N (relabel sc1 env) scope own := by
  subst he
  exact blkOk_by h
/-- a, b = x, y -/
theorem swapped_of {ts vs : List Expr} {kt k2 : Nat} {tp pt2 : Pos} {env : Env} {names : List Str} (h1 : (!(ts.length == 2 || ts.length == 3) || vs.length != ts.length || env.blockKind != .function) = false)
    (h2 : (vs.any fun | .Starred .. => true | _ => false) = false)
    (h3 : (ts.filterMap fun | .Name id pos => if env.kindOf id == some .local && pos.line == (ts.head?.map (·.pos.line)).getD 0 then some id else none | _ => none) = names)
    (h4 : (names.length != ts.length || names.eraseDups.length != names.length) = false) (h5 : vs.all (foldedForSure 8) = false) (h6 : vs.all (constantsAlone 8) = false) :
    swappedStores [.Tuple ts kt tp] (.Tuple vs k2 pt2) env = pure (some names) := by
  subst h3
  unfold swappedStores
  simp only [h1, h2, h4, h5, h6, pure_bind, Bool.false_eq_true, if_false]
  refine (if_neg fun z => Bool.noConfusion (h2.symm.trans z)).trans ?_
  exact if_neg fun z => Bool.noConfusion (h4.symm.trans z)

/-! ## the town, new -/
def spB : Sp := fun vs H Q _ => vs = [] ∧ ∀ t r H', H t = none → H r = none → t ≠ r → Ex H H' → H' t = some (.dK (tnK 0 r)) → H' r = some (.dK []) → Q (.ref t) H'
def DefB (P : Program) (w : World) (K : PySem.W.Frag) (mg : Str → Option Value) (base : Heap) (k : Nat) (x : Str) : Prop :=
  ∃ f fd, FnOk P w K mg base CX0 k f fd [] spB ∧ mg x = some (.ref f) ∧ PySem.W.keepIn K (.ref f) = true ∧ Kw fd []
theorem merge_new {q : Addr} : mergeK [] [(kC, V.int 0), (kR, V.ref q)] = tnK 0 q := by
  have h : ¬ (kC = kR) := key_ne
  show putK (putK [] kC (V.int 0)) kR (V.ref q) = _
  have e1 : putK ([] : List (Key × V)) kC (V.int 0) = [(kC, V.int 0)] := rfl
  rw [e1, putK_new _ (by rw [valV_neg h]; rfl)]
  rfl
theorem pe_newTown {X : Cx} {pos p1 p2 p3 p4 : Pos} {j1 j2 j3 : Nat} : PE X (.Dict [some (.Constant (.str "count") j1 p1), some (.Constant (.str "rests") j2 p2)] [.Constant (.int 0) j3 p3, .Dict [] [] p4] pos)
    (fun σ H Q => ∀ t r H', H t = none → H r = none → t ≠ r → Ex H H' → H' t = some (.dK (tnK 0 r)) → H' r = some (.dK []) → Q (.ref t) H') :=
  pe_imp (pe_disp (pps_cons pe_str pe_int (pps_cons pe_str pe_dnewK pps_nil)) rfl rfl (by simp) (by show 2 ≤ 15; decide)) fun σ H Q k p hp => by
    show ∀ q, (upd H p (.dK [])) q = none → _
    intro q hq
    have ne : q ≠ p := fun e => by rw [e, upd_same] at hq; cases hq
    have hq' : H q = none := by rw [upd_ne ne] at hq; exact hq
    refine ⟨by rw [upd_ne (Ne.symm ne), upd_same], [(kC, .int 0), (kR, .ref q)], rfl, by show 2 ≤ 15; decide, ?_⟩
    rw [merge_new]
    refine k p q _ hp hq' (Ne.symm ne) (fun b o hb => ?_) upd_same (by rw [upd_ne ne, upd_same])
    rw [upd_ne (ne_of_none hb hp), upd_ne (ne_of_none hb hq'), upd_ne (ne_of_none hb hp)]
    exact hb
section
variable {P : Program} {w : World} {K : PySem.W.Frag} {mg : Str → Option Value} {base : Heap}
theorem defB_mk {x : Str} {st : Stmt} {f : Addr} {fd : FuncData} {k : Nat} {pos p0 p1 p2 p3 p4 : Pos} {j1 j2 j3 : Nat} (A : DefAt K mg x st [] f fd) (S : FnScope [] [] (defScope st))
    (hb : ∃ pre, defBody st = pre ++ [.Return (some (.Dict [some (.Constant (.str "count") j1 p1), some (.Constant (.str "rests") j2 p2)] [.Constant (.int 0) j3 p3, .Dict [] [] p4] pos)) p0] ∧ pre = []) : DefB P w K mg base (k + 1) x := by
  obtain ⟨pre, hb, rfl⟩ := hb
  refine ⟨f, fd, ?_, A.at_, A.fn.kp, A.kw⟩
  refine A.fn.ok S (fun vs H Q E ⟨e, _⟩ => by rw [e]; rfl) (fun cdv A outer s H vs Q E hr ⟨e, h⟩ => ?_)
  rw [hb]
  exact ⟨_, pss_one (ps_ret pe_newTown), h⟩
variable {X : Cx} {ρ : List SD} {Po : Po} {rest : List Stmt} {x y : Str} {pos p spos pos' : Pos} {k n : Nat} {sa : Addr} {ns : List Int}
/-- town = begun() -/
theorem hs_begun (F : DefB X.prog X.w X.K X.mg X.base k y) (hr : Room n X.A) (hg : Gl X y) (hN : X.N.Nodup) (hi : X.N[1]? = some x) (hx : Loc X.env.scope x) (kk : ∀ t r, HSs X rest (.mt (scr X.K sa ns) :: .mt (twn t r) :: ρ) Po) (hkn : k ≤ n := by decide) (hdb : (y == ("__debug__" : Str)) = false := by decide)
    (hs : swapsWith (.Call (.Name y p) [] [] pos) (some (.Name x pos')) spos.line X.env = pure false := by rfl)
    (hf : X.fn x = true ∨ X.env.scope.names.lookup x = some .local := by first | exact .inl rfl | exact .inr rfl | assumption) : HSs X (.Assign [.Name x pos'] (.Call (.Name y p) [] [] pos) spos :: rest) (.mt (scr X.K sa ns) :: .un :: ρ) Po := by
  obtain ⟨f, fd, F1, F2, F3, F4⟩ := F
  refine hs_cons (M := fun r => ∃ t r', r = .mt (scr X.K sa ns) :: .mt (twn t r') :: ρ) ?_ fun r ⟨t, r', e⟩ => by subst e; exact kk t r'
  refine ps_imp (ps_set (i := 1) hN hi hx (pe_call0 F1 (hr.mono hkn) hg F2 F3 F4.bd .nil pass0 hdb) hs hf) fun Dn σ H ⟨F, O0, O1, s, nx, rt, bk, ct⟩ => ?_
  show spB ([] ++ []) H (fun v H' => gName 1 v σ H' Dn.nx) E0
  refine ⟨rfl, fun t r H' h1 h2 h3 h4 h5 h6 => ?_⟩
  have sl := s.sl
  cases sl with
  | mt q1 q2 q3 =>
    rename_i bs v0 _h0
    cases q3 with
    | un q4 =>
      rename_i σ2 x1
      have hF : ∀ a, H a = none → F a = none := fun a ha => by
        cases w : F a with
        | none => rfl
        | some o => rw [s.fr a o w] at ha; cases ha
      have nb : ∀ a, H a = none → a ∉ (scr X.K sa ns).fp ++ bs ++ O0 := fun a ha z => s.al a z ha
      have hO : (scr X.K sa ns).fp ++ ((twn t r).fp ++ bs) = t :: r :: bs := rfl
      have hm : Ex (msk ((scr X.K sa ns).fp ++ bs ++ O0) H) (msk (t :: r :: bs ++ O0) H') := fun a o ha => by
        obtain ⟨z1, z2⟩ := msk_some ha
        rw [msk_out fun z => ?_]
        · exact h4 a o z2
        · rcases List.mem_cons.mp z with z | z
          · rw [z, h1] at z2; cases z2
          · rcases List.mem_cons.mp z with z | z
            · rw [z, h2] at z2; cases z2
            · exact z1 z
      have ko : ∀ a ∈ bs, H' a = H a := fun a ha => by
        cases w : H a with
        | none => exact absurd w (s.sl.al a (List.mem_append_right _ ha))
        | some o => exact h4 a o w
      refine nx _ (t :: r :: bs) _ H' ⟨t, r, rfl⟩ ⟨s.fr.trans h4, ?_, fun a ha => ?_, s.al0.ex h4⟩
      · exact Sl.mt (m := scr X.K sa ns) (as := (twn t r).fp ++ bs) ((scr X.K sa ns).mono q1 hm fun b hb => by cases hb) (fun a ha => by cases ha)
          (Sl.mt (m := twn t r) ⟨rfl, h3, 0, ([] : List (Key × V)), h5, h6, List.nodup_nil, (by intro k hk; simp at hk), (by intro k hk; simp at hk)⟩ (fun a ha z => by
            rcases List.mem_cons.mp ha with e | e
            · rw [e] at z; exact nb t h1 (List.mem_append_left _ z)
            · rw [List.mem_singleton.mp e] at z; exact nb r h2 (List.mem_append_left _ z)) (q4.mono hm ko))
      · rcases List.mem_cons.mp ha with e | e
        · rw [e]; exact ⟨hF t h1, fun z => nb t h1 (List.mem_append_right _ z)⟩
        · rcases List.mem_cons.mp e with e | e
          · rw [e]; exact ⟨hF r h2, fun z => nb r h2 (List.mem_append_right _ z)⟩
          · exact s.new a e
end
end PL

namespace Mus
open PySem PySem.Spec PyProof.Rows L2 PL
/-! ## what the laws draw -/
def c_law_is : Ct := ⟨Bool × Bool, fun a => [.bool a.1, .bool a.2], fun _ => True, fun a => Eq (.bool (a.1 == a.2))⟩
def c_law_draw : Ct := ⟨Int, fun m => [.int m], fun m => 1 ≤ m ∧ m ≤ 1000, fun m => II fun i => 0 ≤ i ∧ i < m⟩
structure Plan.Dr (p : Plan) : Prop where
  h2 : 2 ≤ p.houses.length
  h4 : p.houses.length ≤ 4
  hs : ∀ x ∈ p.houses, 5 ≤ x ∧ x ≤ 18
  o1 : 1 ≤ p.objects.length
  o3 : p.objects.length ≤ 3
  os : ∀ o ∈ p.objects, (0 ≤ o.home ∧ o.home < p.houses.length) ∧ (1 ≤ o.value ∧ o.value ≤ 12) ∧ (0 ≤ o.rest ∧ o.rest ≤ 4) ∧ (4 ≤ o.light ∧ o.light ≤ 21)
  ws : ∀ w ∈ p.wishes, (0 ≤ w.house ∧ w.house < p.houses.length) ∧ (0 ≤ w.item ∧ w.item < p.objects.length) ∧ (p.obj w.item).home ≠ w.house ∧ (0 ≤ w.first ∧ w.first ≤ 23) ∧ w.first ≤ w.last ∧ w.last ≤ w.first + 7
theorem Plan.Dr.ok {p : Plan} (h : p.Dr) (h8 : p.wishes.length ≤ 8) : p.Ok := by
  obtain ⟨a, b, c, d, e, f, g⟩ := h
  refine ⟨by omega, b, fun x hx => ?_, d, by omega, fun o ho => ?_, h8, fun w hw => ?_⟩
  · have := c x hx; omega
  · obtain ⟨⟨q1, q2⟩, q3, q4, q5⟩ := f o ho
    exact ⟨q1, q2, by omega, by omega, by omega, by omega, by omega, by omega⟩
  · obtain ⟨⟨q1, q2⟩, ⟨q3, q4⟩, q5, q6, q7, q8⟩ := g w hw
    exact ⟨q1, q2, q3, q4, q5, q6.1, q7, by omega⟩
def c_law_plan : Ct := ⟨Int, fun m => [.int m], fun m => 0 ≤ m ∧ m ≤ 8, fun m d => ∃ p : Plan, d = eP p ∧ p.Dr ∧ (p.wishes.length : Int) ≤ m⟩
def c_law_some : Ct := ⟨Nat, fun n => [.int n], fun n => n ≤ 100, fun n d => ∃ s : List Int, d = eT s ∧ (∀ x ∈ s, 0 ≤ x ∧ x < n) ∧ asc s = true⟩
section
variable {X : Cx} {ρ : List SD} {e : Expr} {x x1 x2 : Str} {p p1 p2 pos : Pos} {k n : Nat} {ps : List Str} {sa t r : Addr} {ns : List Int} {Q R : Int → Prop}
theorem evn_draw (F : DefT X.prog X.w X.K X.mg X.base k x ps c_law_draw) (i j : Nat) (hr : Room n X.A) (hg : Gl X x) (ha : EvN X ρ e (II Q)) (hQ : ∀ m, Q m → 1 ≤ m ∧ m ≤ 1000 ∧ ∀ i, 0 ≤ i → i < m → R i) (hs : ρ[i]? = some (.mt (scr X.K sa ns)) := by rfl) (ht : ρ[j]? = some (.mt (twn t r)) := by rfl) (hkn : k ≤ n := by decide)
    (hi : X.N[i]? = some x1 := by rfl) (hv : Vis X.env.scope x1 := by first | exact Or.inl rfl | exact Or.inr (Or.inl rfl) | exact Or.inr (Or.inr rfl)) (hj : X.N[j]? = some x2 := by rfl) (hv2 : Vis X.env.scope x2 := by first | exact Or.inl rfl | exact Or.inr (Or.inl rfl) | exact Or.inr (Or.inr rfl))
    (h1 : (x1 == ("__debug__" : Str)) = false := by decide) (h2 : (x1 == ("__classdict__" : Str)) = false := by decide) (h3 : (x2 == ("__debug__" : Str)) = false := by decide) (h4 : (x2 == ("__classdict__" : Str)) = false := by decide)
    (hdb : (x == ("__debug__" : Str)) = false := by decide) (he3 : starEach [e] X.env = (false, eval e X.env) :: starEach [] X.env := by rfl) (he : starEach (.Name x1 p1 :: .Name x2 p2 :: [e]) X.env = (false, eval (.Name x1 p1) X.env) :: starEach (.Name x2 p2 :: [e]) X.env := by rfl) (he2 : starEach (.Name x2 p2 :: [e]) X.env = (false, eval (.Name x2 p2) X.env) :: starEach [e] X.env := by rfl)
    (hpl : (backTo pos (starEach (.Name x2 p2 :: [e]) X.env)).any (·.1) = false := by rfl) : EvN X ρ (.Call (.Name x p) (.Name x1 p1 :: .Name x2 p2 :: [e]) [] pos) (II R) :=
  evn_callT F i j hr hg (ean_cons ha ea_nil he3) (fun ds ⟨d, r, e1, ⟨m, e2, hm⟩, e3⟩ => by
    subst e1; subst e2; subst e3
    obtain ⟨q1, q2, q3⟩ := hQ m hm
    exact ⟨m, rfl, ⟨q1, q2⟩, fun d ⟨i, hd, h1, h2⟩ => ⟨i, hd, q3 i h1 h2⟩⟩) hs ht hkn hi hv hj hv2 h1 h2 h3 h4 hdb he he2 hpl
theorem evn_drawI {m : Int} (F : DefT X.prog X.w X.K X.mg X.base k x ps c_law_draw) (i j : Nat) (hr : Room n X.A) (hg : Gl X x) (ha : Ev X ρ e (.int m)) (hm1 : 1 ≤ m) (hm2 : m ≤ 1000) (hs : ρ[i]? = some (.mt (scr X.K sa ns)) := by rfl) (ht : ρ[j]? = some (.mt (twn t r)) := by rfl) (hkn : k ≤ n := by decide)
    (hi : X.N[i]? = some x1 := by rfl) (hv : Vis X.env.scope x1 := by first | exact Or.inl rfl | exact Or.inr (Or.inl rfl) | exact Or.inr (Or.inr rfl)) (hj : X.N[j]? = some x2 := by rfl) (hv2 : Vis X.env.scope x2 := by first | exact Or.inl rfl | exact Or.inr (Or.inl rfl) | exact Or.inr (Or.inr rfl))
    (h1 : (x1 == ("__debug__" : Str)) = false := by decide) (h2 : (x1 == ("__classdict__" : Str)) = false := by decide) (h3 : (x2 == ("__debug__" : Str)) = false := by decide) (h4 : (x2 == ("__classdict__" : Str)) = false := by decide)
    (hdb : (x == ("__debug__" : Str)) = false := by decide) (he3 : starEach [e] X.env = (false, eval e X.env) :: starEach [] X.env := by rfl) (he : starEach (.Name x1 p1 :: .Name x2 p2 :: [e]) X.env = (false, eval (.Name x1 p1) X.env) :: starEach (.Name x2 p2 :: [e]) X.env := by rfl) (he2 : starEach (.Name x2 p2 :: [e]) X.env = (false, eval (.Name x2 p2) X.env) :: starEach [e] X.env := by rfl)
    (hpl : (backTo pos (starEach (.Name x2 p2 :: [e]) X.env)).any (·.1) = false := by rfl) : EvN X ρ (.Call (.Name x p) (.Name x1 p1 :: .Name x2 p2 :: [e]) [] pos) (II fun i => 0 ≤ i ∧ i < m) :=
  evn_draw (Q := (· = m)) F i j hr hg (evn_int ha rfl) (fun m' e => by subst e; exact ⟨hm1, hm2, fun i a b => ⟨a, b⟩⟩) hs ht hkn hi hv hj hv2 h1 h2 h3 h4 hdb he3 he he2 hpl
end
theorem asc_iff : ∀ l : List Int, asc l = true ↔ l.Pairwise (· < ·)
  | [] => by simp [asc]
  | [a] => by simp [asc]
  | a :: b :: l => by
    have ih := asc_iff (b :: l)
    simp only [asc, Bool.and_eq_true, decide_eq_true_eq]
    rw [ih, List.pairwise_cons (a := a)]
    constructor
    · rintro ⟨h1, h2⟩
      refine ⟨fun y hy => ?_, h2⟩
      rcases List.mem_cons.mp hy with e | e
      · rw [e]; exact h1
      · exact Int.lt_trans h1 ((List.pairwise_cons.mp h2).1 y e)
    · rintro ⟨h1, h2⟩
      exact ⟨h1 b List.mem_cons_self, h2⟩
theorem asc_range (lo : Int) (n : Nat) : (rangeD lo n).Pairwise (· < ·) := by
  unfold rangeD
  rw [List.pairwise_map]
  exact List.pairwise_lt_range.imp fun h => by omega
theorem asc_sub {s l : List Int} (h : s.Sublist l) (hl : l.Pairwise (· < ·)) : asc s = true := (asc_iff s).mpr (hl.sublist h)
theorem put_far {m h j : Int} (h2 : 2 ≤ m) (h4 : m ≤ 4) (h0 : 0 ≤ h) (hm : h < m) (j0 : 0 ≤ j) (jm : j < m - 1) : 0 ≤ (h + 1 + j) % m ∧ (h + 1 + j) % m < m ∧ h ≠ (h + 1 + j) % m := by
  rcases (by omega : m = 2 ∨ m = 3 ∨ m = 4) with e | e | e <;> subst e <;> omega
end Mus

namespace Mus
open PySem PySem.Spec PyProof.Rows L2 PL
/-! ## the laws' own reasons -/
theorem rangeD_succ (n : Nat) : rangeD 0 (n + 1) = rangeD 0 n ++ [(n : Int)] := by
  unfold rangeD
  rw [List.range_succ, List.map_append]
  simp
theorem rangeD_get {n i : Nat} {x : Int} (h : (rangeD 0 n)[i]? = some x) : x = i ∧ i < n := by
  have hl := (List.getElem?_eq_some_iff.mp h).1
  rw [rangeD_len] at hl
  unfold rangeD at h
  rw [List.getElem?_map, List.getElem?_range hl] at h
  rw [Option.map_some] at h
  have := Option.some.inj h
  exact ⟨by omega, hl⟩
theorem filter_one {α β : Type} (g : α → Bool) (f : α → β) (x : α) : (([x].filter g).map f) = if g x = true then [f x] else [] := by
  cases h : g x <;> simp [h]
def awks (p : Plan) (s : List Int) (i : Int) : List Int := (s.filter fun x => decide ((p.wish x).item = i)).map fun x => (p.wish x).last - (p.wish x).first + 1
def aL (p : Plan) (s : List Int) (n : Nat) : List Reason := ((rangeD 0 n).filter fun i => decide ((p.obj i).light < (awks p s i).sum)).map Reason.light
theorem aL_succ (p : Plan) (s : List Int) (n : Nat) : aL p s (n + 1) = aL p s n ++ if decide ((p.obj (n : Int)).light < (awks p s (n : Int)).sum) = true then [Reason.light n] else [] := by
  unfold aL
  rw [rangeD_succ, List.filter_append, List.map_append]
  rw [filter_one]
theorem aL_len (p : Plan) (s : List Int) (n : Nat) : (aL p s n).length ≤ n := by
  unfold aL
  rw [List.length_map]
  refine Nat.le_trans (List.length_filter_le ..) ?_
  rw [rangeD_len]; exact Nat.le_refl _
def aPair (p : Plan) (x y : Int) : Bool := decide (x < y) && decide ((p.wish x).item = (p.wish y).item)
def aNear (p : Plan) (x y : Int) : Bool := decide ((p.wish y).first ≤ (p.wish x).last + (p.obj (p.wish x).item).rest) && decide ((p.wish x).first ≤ (p.wish y).last + (p.obj (p.wish x).item).rest)
def aRow (p : Plan) (x : Int) (l : List Int) : List Reason := (l.filter fun y => aPair p x y && aNear p x y).map fun y => Reason.rest x y
theorem aRow_succ (p : Plan) (x : Int) {l : List Int} {j : Nat} {y : Int} (h : l[j]? = some y) : aRow p x (l.take (j + 1)) = aRow p x (l.take j) ++ if (aPair p x y && aNear p x y) = true then [Reason.rest x y] else [] := filter_step h
theorem aRow_len (p : Plan) (x : Int) (l : List Int) : (aRow p x l).length ≤ l.length := by
  unfold aRow
  rw [List.length_map]
  exact List.length_filter_le ..
def aR (p : Plan) (s l : List Int) : List Reason := l.flatMap fun x => aRow p x s
theorem aR_succ (p : Plan) (s : List Int) {l : List Int} {j : Nat} {x : Int} (h : l[j]? = some x) : aR p s (l.take (j + 1)) = aR p s (l.take j) ++ aRow p x s := flatMap_step h
theorem flatMap_le {α β : Type} (f : α → List β) (c : Nat) (h : ∀ x, (f x).length ≤ c) : ∀ l : List α, (l.flatMap f).length ≤ l.length * c
  | [] => by simp
  | a :: l => by
    have h1 := flatMap_le f c h l
    have h2 := h a
    rw [List.flatMap_cons, List.length_append, List.length_cons, Nat.succ_mul]
    omega
theorem aR_len (p : Plan) (s l : List Int) : (aR p s l).length ≤ l.length * s.length := flatMap_le _ _ (fun x => aRow_len p x s) l
def aHere (p : Plan) (s : List Int) (h : Int) : List Wish := (s.filter fun x => decide ((p.wish x).house = h)).map p.wish
def aWorth (p : Plan) (ws : List Wish) (k : Int) : List Int := (ws.filter fun w => decide (w.first ≤ k) && decide (k ≤ w.last)).map fun w => (p.obj w.item).value
def Plan.lim (p : Plan) (h : Int) : Int := p.houses.getD h.toNat 0
def aCol (p : Plan) (s : List Int) (h : Int) (n : Nat) : List Reason := ((rangeD 0 n).filter fun k => decide (p.lim h < (aWorth p (aHere p s h) k).sum)).map fun k => Reason.value h k
theorem aCol_succ (p : Plan) (s : List Int) (h : Int) (n : Nat) : aCol p s h (n + 1) = aCol p s h n ++ if decide (p.lim h < (aWorth p (aHere p s h) n).sum) = true then [Reason.value h n] else [] := by
  unfold aCol
  rw [rangeD_succ, List.filter_append, List.map_append]
  rw [filter_one]
theorem aCol_len (p : Plan) (s : List Int) (h : Int) (n : Nat) : (aCol p s h n).length ≤ n := by
  unfold aCol
  rw [List.length_map]
  refine Nat.le_trans (List.length_filter_le ..) ?_
  rw [rangeD_len]; exact Nat.le_refl _
def aV (p : Plan) (s : List Int) (n : Nat) : List Reason := (rangeD 0 n).flatMap fun h => aCol p s h 61
theorem aV_succ (p : Plan) (s : List Int) (n : Nat) : aV p s (n + 1) = aV p s n ++ aCol p s n 61 := by
  unfold aV
  rw [rangeD_succ, List.flatMap_append]
  simp
theorem aV_len (p : Plan) (s : List Int) (n : Nat) : (aV p s n).length ≤ n * 61 := by
  have := flatMap_le (fun h => aCol p s h 61) 61 (fun x => aCol_len p s x 61) (rangeD 0 n)
  rw [rangeD_len] at this
  exact this
def against (p : Plan) (s : List Int) : List Reason := aL p s p.objects.length ++ aR p s s ++ aV p s p.houses.length
def c_law_against : Ct := ⟨Plan × List Int, fun a => [eP a.1, eT a.2], fun a => a.1.Ok ∧ SomeOk a.1 a.2, fun a => Eq (.list ((against a.1 a.2).map eR))⟩
end Mus

namespace Mus
open PySem PySem.Spec PyProof.Rows L2 PL
theorem en_opt {α : Type} [DecidableEq α] {e : α → PyData} (h : En e 1) (hn : ∀ a, PyData.eqv (e a) .none = false ∧ PyData.eqv .none (e a) = false) : En (eOpt e) 1 := ⟨fun a => by
    cases a with
    | none => exact shp_none.mono (by decide)
    | some a => exact h.shp a, fun a b => by
    cases a with
    | none => cases b with
      | none => simp [eOpt, PyData.eqv]
      | some b => simp only [eOpt]; rw [(hn b).2]; simp
    | some a => cases b with
      | none => simp only [eOpt]; rw [(hn a).1]; simp
      | some b => simp only [eOpt]; rw [h.eq]; simp⟩
theorem en_optR : En (eOpt eR) 1 := en_opt en_R fun a => by cases a <;> simp [eR, PyData.eqv]
theorem asc_split {s : List Int} (h : asc s = true) {i : Nat} {x : Int} (hx : s[i]? = some x) (q : Int → Bool) : (s.filter fun y => decide (x < y) && q y) = (s.drop (i + 1)).filter q := by
  have hp := (asc_iff s).mp h
  have e : s = s.take i ++ x :: s.drop (i + 1) := by
    have hl := (List.getElem?_eq_some_iff.mp hx).1
    have e2 : s[i] = x := (List.getElem?_eq_some_iff.mp hx).2
    conv => lhs; rw [← List.take_append_drop i s, List.drop_eq_getElem_cons hl, e2]
  generalize s.take i = a at e
  generalize s.drop (i + 1) = b at e ⊢
  subst e
  rw [List.pairwise_append] at hp
  obtain ⟨h1, h2, h3⟩ := hp
  obtain ⟨h4, h5⟩ := List.pairwise_cons.mp h2
  rw [List.filter_append, List.filter_cons_of_neg (by simp)]
  have e1 : a.filter (fun y => decide (x < y) && q y) = [] := by
    rw [List.filter_eq_nil_iff]
    intro y hy
    have := h3 y hy x List.mem_cons_self
    simp; intro; omega
  rw [e1, List.nil_append]
  refine List.filter_congr fun y hy => ?_
  rw [decide_eq_true (h4 y hy), Bool.true_and]
theorem range_drop (s : List Int) (i : Nat) : (rangeD ((i : Int) + 1) ((s.length : Int) - ((i : Int) + 1)).toNat).map (atZ s) = s.drop (i + 1) := by
  apply List.ext_getElem?
  intro k
  unfold rangeD atZ
  rw [List.map_map, List.getElem?_map, List.getElem?_drop]
  by_cases hk : k < ((s.length : Int) - ((i : Int) + 1)).toNat
  · rw [List.getElem?_range hk, Option.map_some]
    have e1 : (((i : Int) + 1) + (k : Int)).toNat = i + 1 + k := by omega
    have hl : i + 1 + k < s.length := by omega
    simp only [Function.comp]
    rw [e1, List.getD, List.getElem?_eq_getElem hl]
    rfl
  · rw [List.getElem?_eq_none (by rw [List.length_range]; omega), List.getElem?_eq_none (by omega)]
    rfl
theorem filter_map' {α β : Type} (f : α → β) (g : β → Bool) : ∀ l : List α, (l.map f).filter g = (l.filter (g ∘ f)).map f := fun l => List.filter_map
theorem wAt_named (p : Plan) (s : List Int) {t : Int} (h0 : 0 ≤ t) (h1 : t < s.length) : wAt (named p s) t = p.wish (atZ s t) := by
  have hl : t.toNat < s.length := by omega
  unfold wAt named atZ
  rw [List.getD, List.getElem?_map, List.getElem?_eq_getElem hl, List.getD, List.getElem?_eq_getElem hl]
  rfl
theorem near_not_rest (p : Plan) (x y : Int) : aNear p x y = !doRest (p.wish x) (p.wish y) (p.obj (p.wish x).item).rest := by
  unfold aNear doRest
  rw [Bool.eq_iff_iff]
  simp only [Bool.and_eq_true, decide_eq_true_eq, Bool.not_eq_true', Bool.or_eq_false_iff, decide_eq_false_iff_not]
  omega
theorem row_eq {p : Plan} {s : List Int} (h : asc s = true) {i : Nat} {x : Int} (hx : s[i]? = some x) : aRow p x s = (tiredRow p (named p s) (p.wish x) i).map fun t => Reason.rest x (atZ s t) := by
  unfold aRow tiredRow
  have e1 : (s.filter fun y => aPair p x y && aNear p x y) = (s.drop (i + 1)).filter fun y => tiredB p (p.wish x) (p.wish y) := by
    rw [← asc_split h hx]
    refine List.filter_congr fun y _ => ?_
    unfold aPair tiredB
    rw [near_not_rest, Bool.and_assoc]
  have hl : (named p s).length = s.length := by unfold named; rw [List.length_map]
  rw [e1, ← range_drop s i, filter_map', List.map_map, hl]
  refine congrArg (List.map _) (List.filter_congr fun t ht => ?_)
  have := rangeD_mem.mp ht
  rw [Function.comp, wAt_named p s (by omega) (by omega)]
theorem flat_zip {α β : Type} (l : List α) (f : α → List β) (g : α × Nat → List β) (k : Nat) (h : ∀ i x, l[i]? = some x → f x = g (x, k + i)) : l.flatMap f = (l.zipIdx k).flatMap g := by
  induction l generalizing k with
  | nil => rfl
  | cons a l ih =>
    rw [List.zipIdx_cons, List.flatMap_cons, List.flatMap_cons, h 0 a rfl, ih (k + 1) fun i x hx => by rw [h (i + 1) x (by simpa using hx)]; congr 2; omega]
    rfl
theorem rest_eq {p : Plan} {s : List Int} (h : asc s = true) : aR p s s = (tired p (named p s)).map fun x => Reason.rest (atZ s x.1) (atZ s x.2) := by
  unfold aR tired
  rw [List.map_flatMap]
  unfold named
  rw [List.zipIdx_map, List.flatMap_map]
  refine flat_zip s _ _ 0 fun i x hx => ?_
  rw [row_eq h hx]
  have e : atZ s (i : Int) = x := by
    unfold atZ
    rw [Int.toNat_natCast, List.getD, hx]; rfl
  simp only [Nat.zero_add, List.map_map]
  unfold named
  refine List.map_congr_left fun t _ => ?_
  simp only [Function.comp, Prod.map]
  show Reason.rest x (atZ s t) = Reason.rest (atZ s (i : Int)) (atZ s t)
  rw [e]
theorem light_eq (p : Plan) (s : List Int) : aL p s p.objects.length = (bleached p (named p s)).map Reason.light := by
  unfold aL bleached
  refine congrArg _ (List.filter_congr fun i _ => ?_)
  unfold weeksOf awks named
  rw [filter_map', List.map_map]
  rfl
theorem worth_eq (p : Plan) (s : List Int) (h k : Int) : (aWorth p (aHere p s h) k).sum = valueAt p (named p s) h k := by
  unfold aWorth aHere valueAt thereIn named
  rw [filter_map', filter_map', List.filter_filter]
  refine congrArg (fun l => (List.map (fun w => (p.obj w.item).value) (List.map p.wish l)).sum) (List.filter_congr fun x _ => ?_)
  simp only [Function.comp]
  rw [Bool.and_comm]
theorem flatMap_cg {α β : Type} {f g : α → List β} : ∀ {l : List α}, (∀ x ∈ l, f x = g x) → l.flatMap f = l.flatMap g
  | [], _ => rfl
  | a :: l, h => by rw [List.flatMap_cons, List.flatMap_cons, h a List.mem_cons_self, flatMap_cg fun x hx => h x (List.mem_cons_of_mem _ hx)]
theorem value_eq (p : Plan) (s : List Int) : aV p s p.houses.length = (crowded p (named p s)).map fun x => Reason.value x.1 x.2 := by
  unfold aV crowded
  rw [List.map_flatMap]
  have e : rangeD 0 p.houses.length = p.houses.zipIdx.map fun x => (x.2 : Int) := by
    unfold rangeD
    apply List.ext_getElem?
    intro k
    rw [List.getElem?_map, List.getElem?_map, List.getElem?_zipIdx]
    by_cases hk : k < p.houses.length
    · rw [List.getElem?_range hk, List.getElem?_eq_getElem hk]; simp
    · rw [List.getElem?_eq_none (by rw [List.length_range]; omega), List.getElem?_eq_none (by omega)]; rfl
  rw [e, List.flatMap_map]
  refine flatMap_cg fun x hx => ?_
  obtain ⟨i, hi⟩ := List.getElem?_of_mem hx
  obtain ⟨h1, h2⟩ := zipIdx_get hi
  unfold aCol crowdRow
  rw [List.map_map]
  have el : p.lim (x.2 : Int) = x.1 := by
    unfold Plan.lim
    rw [h2, Int.toNat_natCast, List.getD, h1]; rfl
  rw [el]
  refine congrArg (List.map _) (List.filter_congr fun k _ => ?_)
  rw [worth_eq]
theorem against_eq {p : Plan} {s : List Int} (hp : p.Ok) (hs : SomeOk p s) : against p s = reasonsOf p s := by
  unfold against reasonsOf
  rw [light_eq, rest_eq hs.as, value_eq]
/-! good: no week above its limit; it is enough to look at first weeks -/
theorem sum_le {α : Type} (f : α → Int) : ∀ (l l' : List α), l.Sublist l' → (∀ x ∈ l', 0 ≤ f x) → (l.map f).sum ≤ (l'.map f).sum := by
  intro l l' h
  induction h with
  | slnil => intro _; exact Int.le_refl _
  | cons a h ih => intro k; rw [List.map_cons, List.sum_cons]; have := ih fun x hx => k x (List.mem_cons_of_mem _ hx); have := k a List.mem_cons_self; omega
  | cons_cons a h ih => intro k; rw [List.map_cons, List.map_cons, List.sum_cons, List.sum_cons]; have := ih fun x hx => k x (List.mem_cons_of_mem _ hx); omega
theorem filter_sub {α : Type} {p q : α → Bool} {l : List α} (h : ∀ x ∈ l, p x = true → q x = true) : (l.filter p).Sublist (l.filter q) := by
  have e : l.filter p = (l.filter q).filter p := by
    rw [List.filter_filter]
    refine List.filter_congr fun x hx => ?_
    cases c : p x with
    | false => simp
    | true => simp [h x hx c]
  rw [e]
  exact List.filter_sublist
theorem max_first : ∀ l : List Wish, l ≠ [] → ∃ w ∈ l, ∀ v ∈ l, v.first ≤ w.first
  | [], h => absurd rfl h
  | [a], _ => ⟨a, List.mem_cons_self, fun v hv => by rw [List.mem_singleton.mp hv]; exact Int.le_refl _⟩
  | a :: b :: l, _ => by
    obtain ⟨w, hw, k⟩ := max_first (b :: l) (by simp)
    by_cases c : a.first ≤ w.first
    · refine ⟨w, List.mem_cons_of_mem _ hw, fun v hv => ?_⟩
      rcases List.mem_cons.mp hv with e | e
      · rw [e]; exact c
      · exact k v e
    · refine ⟨a, List.mem_cons_self, fun v hv => ?_⟩
      rcases List.mem_cons.mp hv with e | e
      · rw [e]; exact Int.le_refl _
      · have := k v e; omega
structure GoodWs (p : Plan) (ws : List Wish) : Prop where
  it : ∀ w ∈ ws, 0 ≤ w.item ∧ w.item < p.objects.length
  wk : ∀ w ∈ ws, 0 ≤ w.first ∧ w.first ≤ w.last ∧ w.last ≤ 60
theorem value_first {p : Plan} {ws : List Wish} (hp : p.Ok) (hw : GoodWs p ws) {h k L : Int} (hL : 0 ≤ L) (hv : L < valueAt p ws h k) : ∃ w ∈ ws, w.house = h ∧ L < valueAt p ws h w.first := by
  have hne : thereIn ws h k ≠ [] := fun e => by
    unfold valueAt at hv
    rw [e] at hv
    simp at hv; omega
  obtain ⟨w, hm, hx⟩ := max_first _ hne
  have hm' := List.mem_filter.mp hm
  simp only [Bool.and_eq_true, decide_eq_true_eq] at hm'
  refine ⟨w, hm'.1, hm'.2.1, Int.lt_of_lt_of_le hv ?_⟩
  unfold valueAt
  refine sum_le _ _ _ (filter_sub fun v hv h' => ?_) fun v hv => ?_
  · have hv2 := hx v (List.mem_filter.mpr ⟨hv, h'⟩)
    simp only [Bool.and_eq_true, decide_eq_true_eq] at h' ⊢
    exact ⟨h'.1, hv2, by omega⟩
  · have := hw.it v (List.mem_filter.mp hv).1
    have := (hp.os _ (p.obj_mem this.1 this.2)).v0
    omega
theorem crowd_bad {p : Plan} {ws : List Wish} (hp : p.Ok) (hw : GoodWs p ws) {h L : Int} (hL : 0 ≤ L) : houseBad p ws L h = !(crowdRow p ws L h).isEmpty := by
  rw [Bool.eq_iff_iff]
  unfold houseBad crowdRow
  rw [List.any_eq_true]
  constructor
  · rintro ⟨k, hk, hv⟩
    obtain ⟨w, hw', rfl⟩ := List.mem_map.mp hk
    have h1 := hw.wk w (List.mem_filter.mp hw').1
    rw [Bool.not_eq_true', ← Bool.not_eq_true, List.isEmpty_iff]
    intro e
    rw [List.filter_eq_nil_iff] at e
    exact e w.first (rangeD_mem.mpr (by omega)) hv
  · intro hne
    rw [Bool.not_eq_true', ← Bool.not_eq_true, List.isEmpty_iff] at hne
    obtain ⟨k, hk⟩ := List.exists_mem_of_ne_nil _ hne
    have hk' := List.mem_filter.mp hk
    obtain ⟨w, w1, w2, w3⟩ := value_first hp hw hL (of_decide_eq_true hk'.2)
    exact ⟨w.first, List.mem_map.mpr ⟨w, List.mem_filter.mpr ⟨w1, decide_eq_true w2⟩, rfl⟩, decide_eq_true w3⟩
theorem flatMap_nil' {α β : Type} (f : α → List β) : ∀ l : List α, (l.flatMap f).isEmpty = l.all fun x => (f x).isEmpty
  | [] => rfl
  | a :: l => by
    rw [List.flatMap_cons, List.all_cons, ← flatMap_nil' f l]
    cases f a <;> simp
theorem good_crowded {p : Plan} {ws : List Wish} (hp : p.Ok) (hw : GoodWs p ws) : (p.houses.zipIdx.all fun x => !houseBad p ws x.1 x.2) = (crowded p ws).isEmpty := by
  unfold crowded
  rw [flatMap_nil', Bool.eq_iff_iff, List.all_eq_true, List.all_eq_true]
  refine forall_congr' fun x => ?_
  have hx : x ∈ p.houses.zipIdx → (!houseBad p ws x.1 x.2) = ((crowdRow p ws x.1 x.2).map fun k => ((x.2 : Int), k)).isEmpty := fun hm => by
    obtain ⟨i, hi⟩ := List.getElem?_of_mem hm
    have h1 := (zipIdx_get hi).1
    rw [crowd_bad hp hw (hp.hs _ (List.mem_of_getElem? h1)).1, Bool.not_not, List.isEmpty_map]
  constructor
  · intro k hm; rw [← hx hm]; exact k hm
  · intro k hm; rw [hx hm]; exact k hm
theorem SomeOk.gw {p : Plan} {s : List Int} (hp : p.Ok) (hs : SomeOk p s) : GoodWs p (named p s) := by
  have h := hs.wsok hp
  refine ⟨h.it, fun w hw => ?_⟩
  obtain ⟨x, hx, rfl⟩ := List.mem_map.mp hw
  have := hp.ws _ (p.wish_mem (hs.lo x hx) (hs.hi x hx))
  exact ⟨this.f0, this.fl, this.l1⟩
theorem emp_app {α : Type} (a b : List α) : (a ++ b).isEmpty = (a.isEmpty && b.isEmpty) := by cases a <;> simp
theorem good_reasons {p : Plan} {s : List Int} (hp : p.Ok) (hs : SomeOk p s) : areGood p (named p s) = (reasonsOf p s).isEmpty := by
  unfold areGood reasonsOf
  rw [good_crowded hp (hs.gw hp)]
  simp only [emp_app, List.isEmpty_map]
  cases (tired p (named p s)).isEmpty <;> cases (bleached p (named p s)).isEmpty <;> cases (crowded p (named p s)).isEmpty <;> rfl
end Mus

namespace Mus
open PySem PySem.Spec PyProof.Rows L2 PL
/-! ## slices -/
theorem cutD_to (xs : List PyData) (n : Nat) : PL.cutD xs none (some (n : Int)) = xs.take n := by
  unfold PL.cutD
  rw [HT.sIx_nat, HT.sIx_none, Nat.sub_zero, List.drop_zero]
  rw [List.take_eq_take_iff]; omega
theorem cutD_from (xs : List PyData) (n : Nat) : PL.cutD xs (some (n : Int)) none = xs.drop n := by
  unfold PL.cutD
  rw [HT.sIx_nat, HT.sIx_none]
  by_cases h : n ≤ xs.length
  · rw [Nat.min_eq_left h, List.take_of_length_le (by rw [List.length_drop]; exact Nat.le_refl _)]
  · rw [Nat.min_eq_right (by omega), List.drop_of_length_le (Nat.le_refl _), List.drop_of_length_le (by omega), List.take_nil]
theorem cutD_m1 (xs : List PyData) : PL.cutD xs (some (-1)) none = xs.drop (xs.length - 1) := by
  have e : HT.sIx xs.length 0 (some (-1)) = xs.length - 1 := by
    show (if (-1 : Int) < 0 then ((-1 : Int) + (xs.length : Int)).toNat else min ((-1 : Int)).toNat xs.length) = _
    rw [if_pos (by decide)]
    omega
  unfold PL.cutD
  rw [e, HT.sIx_none, List.take_of_length_le (by rw [List.length_drop]; exact Nat.le_refl _)]
def less (s : List Int) (i : Nat) : List Int := s.take i ++ s.drop (i + 1)
theorem less_sub (s : List Int) (i : Nat) : (less s i).Sublist s := by
  unfold less
  have h : (s.take i ++ s.drop (i + 1)).Sublist (s.take i ++ s.drop i) := List.Sublist.append (List.Sublist.refl _) (by
    rw [show s.drop (i + 1) = (s.drop i).drop 1 by rw [List.drop_drop]]
    exact List.drop_sublist 1 _)
  rw [List.take_append_drop] at h
  exact h
theorem cut_less (s : List Int) (i : Nat) : PL.cutD (s.map PyData.int) none (some (i : Int)) ++ PL.cutD (s.map PyData.int) (some ((i : Int) + 1)) none = (less s i).map PyData.int := by
  rw [cutD_to, show ((i : Int) + 1) = ((i + 1 : Nat) : Int) by omega, cutD_from]
  unfold less
  rw [List.map_append, List.map_take, List.map_drop]
theorem SomeOk.sub {p : Plan} {s t : List Int} (h : SomeOk p s) (k : t.Sublist s) : SomeOk p t := ⟨fun x hx => h.lo x (k.subset hx), fun x hx => h.hi x (k.subset hx), asc_sub k ((asc_iff s).mp h.as)⟩
/-! ## what a reason says -/
theorem mem_light {p : Plan} {s : List Int} {i : Int} : Reason.light i ∈ against p s ↔ (0 ≤ i ∧ i < p.objects.length) ∧ (p.obj i).light < (awks p s i).sum := by
  unfold against aL aR aV aRow aCol
  simp only [List.mem_append, List.mem_map, List.mem_filter, List.mem_flatMap, rangeD_mem, decide_eq_true_eq]
  constructor
  · rintro ((⟨a, ⟨h1, h2⟩, e⟩ | ⟨_, _, _, _, e⟩) | ⟨_, _, _, _, e⟩)
    · cases e; exact ⟨⟨h1.1, by omega⟩, h2⟩
    · cases e
    · cases e
  · rintro ⟨h1, h2⟩
    exact Or.inl (Or.inl ⟨i, ⟨⟨h1.1, by omega⟩, h2⟩, rfl⟩)
theorem mem_rest {p : Plan} {s : List Int} {a b : Int} : Reason.rest a b ∈ against p s ↔ a ∈ s ∧ b ∈ s ∧ aPair p a b = true ∧ aNear p a b = true := by
  unfold against aL aR aV aRow aCol
  simp only [List.mem_append, List.mem_map, List.mem_filter, List.mem_flatMap, rangeD_mem, Bool.and_eq_true]
  constructor
  · rintro ((⟨_, _, e⟩ | ⟨x, hx, y, ⟨hy, h1⟩, e⟩) | ⟨_, _, _, _, e⟩)
    · cases e
    · cases e; exact ⟨hx, hy, h1.1, h1.2⟩
    · cases e
  · rintro ⟨h1, h2, h3, h4⟩
    exact Or.inl (Or.inr ⟨a, h1, b, ⟨h2, h3, h4⟩, rfl⟩)
theorem mem_value {p : Plan} {s : List Int} {h k : Int} : Reason.value h k ∈ against p s ↔ (0 ≤ h ∧ h < p.houses.length) ∧ (0 ≤ k ∧ k ≤ 60) ∧ p.lim h < (aWorth p (aHere p s h) k).sum := by
  unfold against aL aR aV aRow aCol
  simp only [List.mem_append, List.mem_map, List.mem_filter, List.mem_flatMap, rangeD_mem, decide_eq_true_eq]
  constructor
  · rintro ((⟨_, _, e⟩ | ⟨_, _, _, _, e⟩) | ⟨x, hx, y, ⟨hy, h1⟩, e⟩)
    · cases e
    · cases e
    · cases e; exact ⟨⟨hx.1, by omega⟩, ⟨hy.1, by omega⟩, h1⟩
  · rintro ⟨h1, h2, h3⟩
    exact Or.inr ⟨h, ⟨h1.1, by omega⟩, k, ⟨⟨h2.1, by omega⟩, h3⟩, rfl⟩
/-- q is as p, but not stricter -/
structure Ease (p q : Plan) : Prop where
  ws : q.wishes = p.wishes
  hl : q.houses.length = p.houses.length
  ol : q.objects.length = p.objects.length
  lim : ∀ h : Int, 0 ≤ h → h < p.houses.length → p.lim h ≤ q.lim h
  ob : ∀ i : Int, 0 ≤ i → i < p.objects.length → (p.obj i).light ≤ (q.obj i).light ∧ (q.obj i).rest ≤ (p.obj i).rest ∧ (q.obj i).value = (p.obj i).value
theorem Ease.refl (p : Plan) : Ease p p := ⟨rfl, rfl, rfl, fun _ _ _ => Int.le_refl _, fun _ _ _ => ⟨Int.le_refl _, Int.le_refl _, rfl⟩⟩
theorem Ease.wish {p q : Plan} (e : Ease p q) (x : Int) : q.wish x = p.wish x := by unfold Plan.wish; rw [e.ws]
theorem awks_mono {p q : Plan} (hp : p.Ok) (e : Ease p q) {s t : List Int} (hs : InRng p s) (k : t.Sublist s) (i : Int) : (awks q t i).sum ≤ (awks p s i).sum := by
  unfold awks
  have e1 : (fun x => decide ((q.wish x).item = i)) = fun x => decide ((p.wish x).item = i) := by funext x; rw [e.wish]
  have e2 : (fun x => (q.wish x).last - (q.wish x).first + 1) = fun x => (p.wish x).last - (p.wish x).first + 1 := by funext x; rw [e.wish]
  rw [e1, e2]
  refine sum_le _ _ _ (k.filter _) fun x hx => ?_
  have h := hs x (List.mem_filter.mp hx).1
  have := (hp.ws _ (p.wish_mem h.1 h.2)).fl
  omega
theorem here_sub {p q : Plan} (e : Ease p q) {s t : List Int} (k : t.Sublist s) (h : Int) : (aHere q t h).Sublist (aHere p s h) := by
  unfold aHere
  have e1 : (fun x => decide ((q.wish x).house = h)) = fun x => decide ((p.wish x).house = h) := by funext x; rw [e.wish]
  have e2 : q.wish = p.wish := by funext x; rw [e.wish]
  rw [e1, e2]
  exact (k.filter _).map _
theorem here_item {p : Plan} (hp : p.Ok) {s : List Int} (hs : InRng p s) {h : Int} {w : Wish} (hw : w ∈ aHere p s h) : w.Ok p ∧ w.house = h := by
  obtain ⟨x, hx, rfl⟩ := List.mem_map.mp hw
  have g := List.mem_filter.mp hx
  have := hs x g.1
  exact ⟨hp.ws _ (p.wish_mem this.1 this.2), of_decide_eq_true g.2⟩
theorem aWorth_eq {p q : Plan} (e : Ease p q) {ws : List Wish} (hw : ∀ w ∈ ws, 0 ≤ w.item ∧ w.item < p.objects.length) (k : Int) : aWorth q ws k = aWorth p ws k := by
  unfold aWorth
  exact List.map_congr_left fun w hx => (e.ob _ (hw w (List.mem_filter.mp hx).1).1 (hw w (List.mem_filter.mp hx).1).2).2.2
theorem aWorth_mono {p q : Plan} (hp : p.Ok) (e : Ease p q) {s t : List Int} (hs : InRng p s) (k : t.Sublist s) (h w : Int) : (aWorth q (aHere q t h) w).sum ≤ (aWorth p (aHere p s h) w).sum := by
  have hsub := here_sub e k h
  rw [aWorth_eq e (fun v hv => by have := (here_item hp hs (hsub.subset hv)).1; exact ⟨this.i0, this.i1⟩)]
  unfold aWorth
  refine sum_le _ _ _ (hsub.filter _) fun v hv => ?_
  have := (here_item hp hs (List.mem_filter.mp hv).1).1
  have := (hp.os _ (p.obj_mem this.i0 this.i1)).v0
  omega
theorem against_mono {p q : Plan} (hp : p.Ok) (e : Ease p q) {s t : List Int} (hs : InRng p s) (k : t.Sublist s) : ∀ r ∈ against q t, r ∈ against p s := by
  intro r hr
  cases r with
  | light i =>
    rw [mem_light] at hr ⊢
    have h1 : i < p.objects.length := by rw [← e.ol]; exact hr.1.2
    have := awks_mono hp e hs k i
    have := (e.ob i hr.1.1 h1).1
    exact ⟨⟨hr.1.1, h1⟩, by omega⟩
  | rest a b =>
    rw [mem_rest] at hr ⊢
    obtain ⟨h1, h2, h3, h4⟩ := hr
    refine ⟨k.subset h1, k.subset h2, ?_, ?_⟩
    · unfold aPair at h3 ⊢
      rw [e.wish, e.wish] at h3
      exact h3
    · unfold aNear at h4 ⊢
      rw [e.wish, e.wish] at h4
      simp only [Bool.and_eq_true, decide_eq_true_eq] at h4 ⊢
      have hx := hs a (k.subset h1)
      have hw := hp.ws _ (p.wish_mem hx.1 hx.2)
      have := (e.ob _ hw.i0 hw.i1).2.1
      omega
  | value h w =>
    rw [mem_value] at hr ⊢
    have h1 : h < p.houses.length := by rw [← e.hl]; exact hr.1.2
    have := aWorth_mono hp e hs k h w
    have := e.lim h hr.1.1 h1
    exact ⟨⟨hr.1.1, h1⟩, hr.2.1, by omega⟩
def good (p : Plan) (s : List Int) : Bool := (against p s).isEmpty
theorem good_eq {p : Plan} {s : List Int} (hp : p.Ok) (hs : SomeOk p s) : areGood p (named p s) = good p s := by
  rw [good_reasons hp hs, good, against_eq hp hs]
theorem good_iff {p : Plan} {s : List Int} : good p s = true ↔ ∀ r, r ∉ against p s := by
  unfold good
  rw [List.isEmpty_iff, List.eq_nil_iff_forall_not_mem]
theorem good_mono {p q : Plan} (hp : p.Ok) (e : Ease p q) {s t : List Int} (hs : InRng p s) (k : t.Sublist s) (h : good p s = true) : good q t = true := by
  rw [good_iff] at h ⊢
  exact fun r hr => h r (against_mono hp e hs k r hr)
theorem good_nil {p : Plan} (hp : p.Ok) : good p [] = true := by
  rw [good_iff]
  intro r hr
  cases r with
  | light i =>
    rw [mem_light] at hr
    have := (hp.os _ (p.obj_mem hr.1.1 hr.1.2)).l0
    have h2 := hr.2
    simp [awks] at h2
    omega
  | rest a b => rw [mem_rest] at hr; cases hr.1
  | value h k =>
    rw [mem_value] at hr
    have hm : p.lim h ∈ p.houses := getD_mem _ hr.1.1 hr.1.2
    have := (hp.hs _ hm).1
    have h2 := hr.2.2
    simp [aWorth, aHere] at h2
    omega
def fits (p : Plan) (w : Wish) : Bool := decide (w.last - w.first + 1 ≤ (p.obj w.item).light) && decide ((p.obj w.item).value ≤ p.lim w.house)
theorem good_one {p : Plan} (hp : p.Ok) {x : Int} (h0 : 0 ≤ x) (h1 : x < p.wishes.length) : good p [x] = fits p (p.wish x) := by
  have hw := hp.ws _ (p.wish_mem h0 h1)
  rw [Bool.eq_iff_iff, good_iff]
  unfold fits
  simp only [Bool.and_eq_true, decide_eq_true_eq]
  constructor
  · intro k
    refine ⟨?_, ?_⟩
    · have := mt mem_light.mpr (k (.light (p.wish x).item))
      simp only [awks, List.filter_cons, decide_true, if_true, List.filter_nil, List.map_cons, List.map_nil, List.sum_cons, List.sum_nil] at this
      have i0 := hw.i0
      have i1 := hw.i1
      by_cases c : (p.wish x).last - (p.wish x).first + 1 ≤ (p.obj (p.wish x).item).light
      · exact c
      · exact absurd ⟨⟨i0, i1⟩, by omega⟩ this
    · have := mt mem_value.mpr (k (.value (p.wish x).house (p.wish x).first))
      have e : (aWorth p (aHere p [x] (p.wish x).house) (p.wish x).first).sum = (p.obj (p.wish x).item).value := by
        have hfl := hw.fl
        simp [aWorth, aHere, hfl]
      rw [e] at this
      by_cases c : (p.obj (p.wish x).item).value ≤ p.lim (p.wish x).house
      · exact c
      · have l1 := hw.l1
        have fl := hw.fl
        exact absurd ⟨⟨hw.h0, hw.h1⟩, ⟨hw.f0, by omega⟩, by omega⟩ this
  · rintro ⟨k1, k2⟩ r hr
    cases r with
    | light i =>
      rw [mem_light] at hr
      have l0 := (hp.os _ (p.obj_mem hr.1.1 hr.1.2)).l0
      have h2 := hr.2
      by_cases c : (p.wish x).item = i
      · subst c
        simp [awks] at h2
        omega
      · simp [awks, c] at h2
        omega
    | rest a b =>
      rw [mem_rest] at hr
      obtain ⟨h1, h2, h3, _⟩ := hr
      rw [List.mem_singleton.mp h1, List.mem_singleton.mp h2] at h3
      simp [aPair] at h3
    | value h k =>
      rw [mem_value] at hr
      have hm : p.lim h ∈ p.houses := getD_mem _ hr.1.1 hr.1.2
      have l0 := (hp.hs _ hm).1
      have h2 := hr.2.2
      by_cases c : (p.wish x).house = h
      · subst c
        by_cases c2 : (p.wish x).first ≤ k ∧ k ≤ (p.wish x).last
        · simp [aWorth, aHere, c2] at h2
          omega
        · have : ¬ (decide ((p.wish x).first ≤ k) && decide (k ≤ (p.wish x).last)) = true := by simpa using fun h => c2 h
          simp only [aWorth, aHere, List.filter_cons, decide_true, if_true, List.filter_nil, List.map_cons, List.map_nil, if_neg this, List.sum_nil] at h2
          omega
      · simp [aWorth, aHere, c] at h2
        omega
/-! greater limits and light, less rest -/
def eased (p : Plan) : Plan := ⟨p.houses.map fun x => if (40 : Int) < x + 1 then 40 else x + 1, p.objects.map fun o => ⟨o.home, o.value, if (0 : Int) > o.rest - 1 then 0 else o.rest - 1, if (40 : Int) < o.light + 2 then 40 else o.light + 2⟩, p.wishes⟩
theorem getD_map {α β : Type} (f : α → β) (l : List α) (i : Nat) (a : α) (b : β) (h : i < l.length) : (l.map f).getD i b = f (l.getD i a) := by
  simp [List.getD, List.getElem?_map, List.getElem?_eq_getElem h]
theorem eased_obj {p : Plan} {i : Int} (h0 : 0 ≤ i) (h1 : i < p.objects.length) : (eased p).obj i = ⟨(p.obj i).home, (p.obj i).value, if (0 : Int) > (p.obj i).rest - 1 then 0 else (p.obj i).rest - 1, if (40 : Int) < (p.obj i).light + 2 then 40 else (p.obj i).light + 2⟩ := by
  unfold Plan.obj eased
  exact getD_map _ _ _ _ _ (by omega)
theorem ease_eased {p : Plan} (hp : p.Ok) : Ease p (eased p) := by
  refine ⟨rfl, by simp [eased], by simp [eased], fun h h0 h1 => ?_, fun i h0 h1 => ?_⟩
  · have e : (eased p).lim h = if (40 : Int) < p.lim h + 1 then 40 else p.lim h + 1 := by
      unfold Plan.lim eased
      exact getD_map _ _ _ _ _ (by omega)
    have hm : p.lim h ∈ p.houses := getD_mem _ h0 h1
    have := hp.hs _ hm
    rw [e]; split <;> omega
  · rw [eased_obj h0 h1]
    have := hp.os _ (p.obj_mem h0 h1)
    have r0 := this.r0
    have l1 := this.l1
    refine ⟨?_, ?_, rfl⟩
    · show _ ≤ (if (40 : Int) < (p.obj i).light + 2 then 40 else (p.obj i).light + 2)
      split <;> omega
    · show (if (0 : Int) > (p.obj i).rest - 1 then 0 else (p.obj i).rest - 1) ≤ _
      split <;> omega
theorem eased_ok {p : Plan} (hp : p.Ok) : (eased p).Ok := by
  obtain ⟨a, b, c, d, e, f, g, i⟩ := hp
  refine ⟨by simpa [eased] using a, by simpa [eased] using b, fun x hx => ?_, by simpa [eased] using d, by simpa [eased] using e, fun o ho => ?_, g, fun w hw => ?_⟩
  · obtain ⟨y, hy, rfl⟩ := List.mem_map.mp hx
    have := c y hy
    show (0 : Int) ≤ (if (40 : Int) < y + 1 then 40 else y + 1) ∧ (if (40 : Int) < y + 1 then 40 else y + 1) ≤ (40 : Int)
    split <;> omega
  · obtain ⟨y, hy, rfl⟩ := List.mem_map.mp ho
    obtain ⟨q1, q2, q3, q4, q5, q6, q7, q8⟩ := f y hy
    refine ⟨q1, by simpa [eased] using q2, q3, q4, ?_, ?_, ?_, ?_⟩
    · show (0 : Int) ≤ (if (0 : Int) > y.rest - 1 then 0 else y.rest - 1); split <;> omega
    · show (if (0 : Int) > y.rest - 1 then 0 else y.rest - 1) ≤ (9 : Int); split <;> omega
    · show (1 : Int) ≤ (if (40 : Int) < y.light + 2 then 40 else y.light + 2); split <;> omega
    · show (if (40 : Int) < y.light + 2 then 40 else y.light + 2) ≤ (40 : Int); split <;> omega
  · obtain ⟨q1, q2, q3, q4, q5, q6, q7, q8⟩ := i w hw
    refine ⟨q1, by simpa [eased] using q2, q3, by simpa [eased] using q4, ?_, q6, q7, q8⟩
    rw [eased_obj q3 q4]
    exact q5
def c_law_eased : Ct := ⟨Plan, fun p => [eP p], fun p => p.Ok, fun p => Eq (eP (eased p))⟩
/-! a wish twice -/
def twice (p : Plan) : Plan := ⟨p.houses, p.objects, p.wishes ++ p.wishes.drop (p.wishes.length - 1)⟩
theorem twice_len {p : Plan} (h : 0 < p.wishes.length) : (twice p).wishes.length = p.wishes.length + 1 := by
  unfold twice
  rw [List.length_append, List.length_drop]; omega
theorem twice_ok {p : Plan} (hp : p.Ok) (h0 : 0 < p.wishes.length) (h1 : p.wishes.length < 8) : (twice p).Ok := by
  refine ⟨hp.h1, hp.h4, hp.hs, hp.o1, hp.o4, hp.os, by rw [twice_len h0]; omega, fun w hw => ?_⟩
  have hm : w ∈ p.wishes := by
    rcases List.mem_append.mp hw with q | q
    · exact q
    · exact List.mem_of_mem_drop q
  obtain ⟨q1, q2, q3, q4, q5, q6, q7, q8⟩ := hp.ws w hm
  exact ⟨q1, q2, q3, q4, q5, q6, q7, q8⟩
theorem twice_rest {p : Plan} (hp : p.Ok) (h0 : 0 < p.wishes.length) : Reason.rest ((p.wishes.length : Int) - 1) p.wishes.length ∈ against (twice p) [(p.wishes.length : Int) - 1, p.wishes.length] := by
  have e1 : (twice p).wish ((p.wishes.length : Int) - 1) = p.wishes[p.wishes.length - 1] := by
    unfold Plan.wish twice
    rw [show ((p.wishes.length : Int) - 1).toNat = p.wishes.length - 1 by omega]
    simp only [List.getD]
    rw [List.getElem?_append_left (by omega), List.getElem?_eq_getElem (by omega)]
    rfl
  have e2 : (twice p).wish (p.wishes.length : Int) = p.wishes[p.wishes.length - 1] := by
    unfold Plan.wish twice
    rw [Int.toNat_natCast]
    simp only [List.getD]
    rw [List.getElem?_append_right (Nat.le_refl _), Nat.sub_self, List.getElem?_drop, Nat.add_zero, List.getElem?_eq_getElem (by omega)]
    rfl
  rw [mem_rest]
  refine ⟨List.mem_cons_self, List.mem_cons_of_mem _ List.mem_cons_self, ?_, ?_⟩
  · unfold aPair
    rw [e1, e2]
    simp
    omega
  · unfold aNear
    rw [e1, e2]
    have hm : p.wishes[p.wishes.length - 1] ∈ p.wishes := List.getElem_mem _
    have hw := hp.ws _ hm
    have hr := (hp.os _ (p.obj_mem hw.i0 hw.i1)).r0
    have : (twice p).obj (p.wishes[p.wishes.length - 1]).item = p.obj (p.wishes[p.wishes.length - 1]).item := rfl
    rw [this]
    have := hw.fl
    simp only [Bool.and_eq_true, decide_eq_true_eq]
    omega
end Mus

namespace PySem.W
open PySem PySem.Calls PyProof.Rows
section
variable {prog : Program} {w : World} {A : Around} {E : Value → Shared → Prop} {s : Shared} {κ : PyProof.Rows.KeyKind}
/-- what a tuple holds, in a new list -/
theorem pl_collect_tup {l : Addr} {vs : List Value} {Q : List Value → Shared → Prop} (hl : s.heap.IsTuple l vs.toArray) (hz : vs.length ≤ sizeLine)
    (h : Q vs { s with heap := (s.heap.push (seqObj "list" #[] 0)).update s.heap.objs.size (Obj.mapSeq (· ++ vs.toArray)) }) : wpAny (model prog w) A (collect (.ref l)) Q E s := by
  obtain ⟨o, ho, hc, n, hd⟩ := id hl
  have g1 : (s.heap.push (seqObj "list" #[] 0)).get? l = some o := Heap.get?_push_of_some _ ho
  have g2 : (s.heap.push (seqObj "list" #[] 0)).get? s.heap.objs.size = some (seqObj "list" #[] 0) := Heap.get?_push_size _ rfl
  unfold collect; refine wpAny_bind (wpAny_runValue (codeAny_builtin entry_proto_collect' ?_))
  show wpAny _ _ (do again (.builtin "list.__iadd__" ⟨[← newList [], .ref l], []⟩)) _ _ s; refine wpAny_bind (wpAny_newList (wpAny_pure ⟨Code.quiet_builtin _ (by decide +kernel), codeAny_builtin entry_list_iadd' ?_⟩))
  show wpAny _ _ (Builtin.List.listExtendWith (.ref s.heap.objs.size) (.ref l) (.ref s.heap.objs.size)) _ _ { s with heap := s.heap.push (seqObj "list" #[] 0) }; unfold Builtin.List.listExtendWith
  refine wpAny_bind (wpAny_typeOf (T := "tuple") ⟨o, g1, hc⟩ ?_); rw [if_pos (by rw [show (Value.type "tuple" == Value.type "tuple") = true from rfl]; simp)]
  refine wpAny_bind (listItems_at g1 hd ?_); refine wpAny_bind (listItems_at g2 rfl ?_)
  rw [if_neg (by simp)]; refine wpAny_bind (listUpdate_at g2 rfl ?_ (Nat.zero_le _) (by show (#[] ++ vs.toArray).size ≤ sizeLine + 1; simp only [Array.size_append, List.size_toArray, List.length_nil]; omega))
  refine wpAny_pure ?_; refine wpAny_bind (wpAny_load (get?_update_seq g2 _) ?_)
  show wpAny _ _ (pure ((#[] : Array Value) ++ vs.toArray).toList) Q E _; rw [show ((#[] : Array Value) ++ vs.toArray).toList = vs by simp]; exact wpAny_pure h
/-- sorted of a tuple: a new list -/
theorem pl_sorted_tup {l : Addr} {vs : List Value} {Q : Value → Shared → Prop} (hl : s.heap.IsTuple l vs.toArray) (S : SortsAt prog w A.in1.in1 { s with heap := sortingHeap (copyHeap s.heap vs) (s.heap.objs.size + 1) vs } κ vs) (hL : vs.length ≤ sizeLine)
    (h : Q (.ref (s.heap.objs.size + 1)) { s with heap := sortedAll s.heap vs (sortVals κ false vs vs).toArray }) : wpAny (model prog w) A (call (.builtin "sorted") [.ref l]) Q E s := by
  have hsz : ((s.heap.push (seqObj "list" #[] 0)).update s.heap.objs.size (Obj.mapSeq (· ++ vs.toArray))).objs.size = s.heap.objs.size + 1 := by simp [Heap.size_update, size_push']
  refine call_function_entry_kw kind_sorted plain_sorted entry_sorted (args_sorted1 _) ?_; unfold Builtin.«sorted»
  refine wpAny_bind (m := checkCount "sorted" 1 1 _) (wpAny_pure ?_); refine wpAny_bind (pl_collect_tup hl hL ?_)
  refine wpAny_bind (wpAny_newList ?_ hL); show wpAny _ _ _ _ _ { s with heap := copyHeap s.heap vs }
  rw [hsz]; refine wpAny_bind (wpAny_holding (wpAny_call_entry_kw slot_list_sort ⟨_, copyHeap_at s.heap vs, rfl⟩ entry_list_sort ?body (args_list_sort _)))
  case body =>
    show wpAny (model prog w) A.in1.in1 (Builtin.«list.sort» ⟨[.ref (s.heap.objs.size + 1)], []⟩) _ _ _
    exact list_sort_vals (s := { s with heap := copyHeap s.heap vs }) (copyHeap_at s.heap vs) S hL ⟨_, rfl, wpAny_pure ⟨_, rfl, h⟩⟩
end
end PySem.W
namespace PL
open PySem PySem.Spec PyProof.Rows L2 PySem.W
/-! ## sorting and the least of lists of data -/
theorem sortsAt_one {prog : Program} {w : World} {A : Around} {s : Shared} {v : Value} {d : PyData} {as : List Addr} (r : Reads s.heap v d as) (hal : alike d d = true) (hn : d ≠ .none) (hu : A.units + d.depth < cLine) : SortsAt prog w A s (dataKind s.heap [d]) [v] := by
  have hA : AllAlike [d] := fun x hx y hy => by rw [List.mem_singleton.mp hx, List.mem_singleton.mp hy]; exact hal
  refine ⟨fun u hu' => ?_, PyProof.Rows.general', fun E x y a b Q ha hb hq => ?_, fun h2 => absurd h2 (by simp)⟩
  · rw [List.mem_singleton.mp hu']
    exact ⟨_, dataKind_some hA List.mem_cons_self r⟩
  · obtain ⟨e, as1, hd, ra, rfl⟩ := dataKind_inv ha
    obtain ⟨e', as2, hd', rb, rfl⟩ := dataKind_inv hb
    rw [List.mem_singleton.mp hd] at ra hq
    rw [List.mem_singleton.mp hd'] at rb hq
    show wpAny (model prog w) A (oneLt' false x y) Q E s
    exact oneLt_alike (f := false) (fun z => nomatch z) ra rb hal hn (by rw [Nat.min_self]; exact hu) hq
/-- what sorted takes -/
def Srt (ds : List PyData) : Prop := AllAlike ds ∧ (Sortable ds ∨ ds.length ≤ 1) ∧ ∀ d ∈ ds, d ≠ .none ∧ d.depth ≤ 60
def sortD (ds : List PyData) : List PyData := ds.mergeSort (dataLe false id)
def rSortD : List V → Hp → VK → Prop := fun vs H Q => ∃ (Hm : Hp) (a : Addr) (xs : List V) (ds : List PyData), vs = [.ref a] ∧ Ex Hm H ∧ (H a = some (.lst xs) ∨ H a = some (.tup xs)) ∧ RpA Hm xs ds ∧ Srt ds ∧ ds.length ≤ big ∧ ∀ ys p, RpA Hm ys (sortD ds) → H p = none → Q (.ref p) (upd H p (.lst ys))
theorem each_of_vals {Hm H : Hp} {K : PySem.W.Frag} {X : Cx} {pins : List (Addr × Obj)} {σ : L2.St} {s : Shared} (I : Inv X pins σ H s) (ex : Ex Hm H) : ∀ {xs : List V} {ds : List PyData} {us : List Value}, Vals xs us → RpA Hm xs ds → EachIs (fun u (b : V × PyData) => RelV b.1 u ∧ Rp Hm b.1 b.2) us (xs.zip ds) ∧ EachIs (fun u (b : V × PyData) => ∃ as, Reads s.heap u b.2 as) us (xs.zip ds)
  | [], _, _, r, h => by cases h; cases r; exact ⟨.nil, .nil⟩
  | x :: xs, _, _, r, h => by
    cases h with
    | cons h1 h2 =>
      cases r with
      | cons r1 r2 =>
        obtain ⟨e1, e2⟩ := each_of_vals (K := K) I ex r2 h2
        obtain ⟨as, rd⟩ := Dp.reads I _ _ _ ((h1.mono ex).dp) r1
        exact ⟨.cons ⟨r1, h1⟩ e1, .cons ⟨as, rd⟩ e2⟩
theorem each_back {H : Hp} : ∀ {us : List Value} {bs : List (V × PyData)}, EachIs (fun u (b : V × PyData) => RelV b.1 u ∧ Rp H b.1 b.2) us bs → Vals (bs.map Prod.fst) us ∧ RpA H (bs.map Prod.fst) (bs.map Prod.snd)
  | _, _, .nil => ⟨.nil, .nil⟩
  | _, _, .cons h t => ⟨.cons h.1 (each_back t).1, .cons h.2 (each_back t).2⟩
theorem sort_snd (xs : List V) (ds : List PyData) (hl : xs.length = ds.length) : ((xs.zip ds).mergeSort (dataLe false (Prod.snd : V × PyData → PyData))).map Prod.snd = sortD ds := by
  unfold sortD
  rw [List.map_mergeSort (r := dataLe false (Prod.snd : V × PyData → PyData)) (s := dataLe false id) (f := (Prod.snd : V × PyData → PyData)) (fun a _ b _ => rfl), List.map_snd_zip (by omega)]
theorem sortsAt_data {X : Cx} {pins : List (Addr × Obj)} {σ : L2.St} {Hm H : Hp} {s : Shared} {xs : List V} {ds : List PyData} {its : List Value} (hu : X.A.units + 65 < cLine) (I : Inv X pins σ H s) (hx : RpA Hm xs ds) (hS : Srt ds) (rv : Vals xs its) (e2 : EachIs (fun u (b : V × PyData) => ∃ as, Reads s.heap u b.2 as) its (xs.zip ds)) :
    SortsAt X.prog X.w X.A.in1.in1 { s with heap := sortingHeap (copyHeap s.heap its) (s.heap.objs.size + 1) its } (dataKind (sortingHeap (copyHeap s.heap its) (s.heap.objs.size + 1) its) ds) its := by
  obtain ⟨hal, hso, hne⟩ := hS
  have em : (xs.zip ds).map Prod.snd = ds := List.map_snd_zip (by rw [hx.len]; exact Nat.le_refl _)
  have er' : EachIs (fun u (b : V × PyData) => ∃ as, Reads (sortingHeap (copyHeap s.heap its) (s.heap.objs.size + 1) its) u b.2 as) its (xs.zip ds) := e2.mono fun _ _ ⟨as, r⟩ => ⟨as, PyProof.Rows.Reads.keeps (fun _ _ => sorting_copy_old) r⟩
  rcases hso with hso | h1
  · have e3 := each_map (R := fun v d => ∃ as, Reads (sortingHeap (copyHeap s.heap its) (s.heap.objs.size + 1) its) v d as) Prod.snd er'
    rw [em] at e3
    refine SortsAt.data (s := { s with heap := sortingHeap (copyHeap s.heap its) (s.heap.objs.size + 1) its }) e3 hal hso fun d hd => ?_
    have := (hne d hd).2
    show X.A.units + 2 + _ < _
    omega
  · cases hx with
    | nil =>
      cases rv
      exact ⟨fun v hv => absurd hv (by simp), PyProof.Rows.general', fun E x y a b Q ha _ _ => (by obtain ⟨d, _, hd, _⟩ := dataKind_inv ha; exact absurd hd (by simp)), fun h2 => absurd h2 (by simp)⟩
    | cons g1 g2 =>
      cases g2 with
      | nil =>
        cases rv with
        | cons rv1 rv2 =>
          cases rv2
          cases e2 with
          | cons e3 e4 =>
            obtain ⟨as, rd⟩ := e3
            refine sortsAt_one (PyProof.Rows.Reads.keeps (fun _ _ => sorting_copy_old) rd) (hal _ List.mem_cons_self _ List.mem_cons_self) (hne _ List.mem_cons_self).1 ?_
            have := (hne _ List.mem_cons_self).2
            show X.A.units + 2 + _ < _
            omega
      | cons g3 g4 => simp at h1
theorem cr_sortD {X : Cx} (hu : X.A.units + 65 < cLine) : CallR X (.builtin "sorted") rSortD := by
  intro pins s σ H vs us Q I r h
  obtain ⟨Hm, a, xs, ds, rfl, ex, hs, hx, hS, hbig, q⟩ := h
  obtain ⟨u, rfl, ru⟩ := vals1 r
  obtain rfl : u = Value.ref a := ru
  have em : (xs.zip ds).map Prod.snd = ds := List.map_snd_zip (by rw [hx.len]; exact Nat.le_refl _)
  have main : ∀ its : List Value, Vals xs its → xs.length ≤ sizeLine → (∀ {Q' : Value → Shared → Prop}, SortsAt X.prog X.w X.A.in1.in1 { s with heap := sortingHeap (copyHeap s.heap its) (s.heap.objs.size + 1) its } (dataKind (sortingHeap (copyHeap s.heap its) (s.heap.objs.size + 1) its) ds) its → its.length ≤ sizeLine →
      Q' (.ref (s.heap.objs.size + 1)) { s with heap := PyProof.Rows.sortedAll s.heap its (sortVals (dataKind (sortingHeap (copyHeap s.heap its) (s.heap.objs.size + 1) its) ds) false its its).toArray } → wpAny (model X.prog X.w) X.A (call (.builtin "sorted") [.ref a]) Q' X.xe s) → wpAny (model X.prog X.w) X.A (call (.builtin "sorted") [.ref a]) (EP X pins σ Q) X.xe s := fun its rv hz run => by
    obtain ⟨e1, e2⟩ := each_of_vals (K := X.K) I ex rv hx
    refine run (sortsAt_data hu I hx hS rv e2) (by rw [← rv.length]; exact hz) ?_
    have er' : EachIs (fun u (b : V × PyData) => ∃ as, Reads (sortingHeap (copyHeap s.heap its) (s.heap.objs.size + 1) its) u b.2 as) its (xs.zip ds) := e2.mono fun _ _ ⟨as, r⟩ => ⟨as, PyProof.Rows.Reads.keeps (fun _ _ => sorting_copy_old) r⟩
    have ho := sortVals_data (enc := Prod.snd) false e1 er' (by rw [em]; exact hS.1)
    rw [em] at ho
    obtain ⟨b1, b2⟩ := each_back ho
    rw [sort_snd xs ds hx.len] at b2
    obtain ⟨n, hn⟩ := PyProof.Rows.sortedAll_at s.heap its (sortVals (dataKind (sortingHeap (copyHeap s.heap its) (s.heap.objs.size + 1) its) ds) false its its).toArray
    have hlen : (((xs.zip ds).mergeSort (dataLe false (Prod.snd : V × PyData → PyData))).map Prod.fst).length ≤ sizeLine := by
      rw [List.length_map, List.length_mergeSort, List.length_zip]
      have := le_line hbig
      have := hx.len
      omega
    exact ⟨.ref (s.heap.objs.size + 1), upd H (s.heap.objs.size + 1) (.lst _), I.laid (t' := s.toks) (fun b o e => PyProof.Rows.sortedAll_old e) (Nat.le_succ _) ⟨hlen, _, n, b1, hn⟩, rfl, q _ _ b2 (I.hok.fresh (Nat.le_succ _))⟩
  rcases hs with hs | hs
  · obtain ⟨its, rv, hl, hz⟩ := I.list (SqL.of (K := X.K) hs)
    exact main its rv hz fun S hL h => sorted_vals hl.isList S hL h
  · obtain ⟨its, rv, hl, hz⟩ := I.tuple (SqT.of (K := X.K) hs)
    exact main its rv hz fun S hL h => pl_sorted_tup hl S hL h
/-- the least -/
def rMinD : List V → Hp → VK → Prop := fun vs H Q => ∃ (Hm : Hp) (a : Addr) (xs : List V) (d : PyData) (ds : List PyData), vs = [.ref a] ∧ Ex Hm H ∧ H a = some (.lst xs) ∧ RpA Hm xs (d :: ds) ∧ AlikeAll (d :: ds) ∧ SeqAt.shaped (.list (d :: ds)) = true ∧ ∀ v, Rp Hm v (minD d ds) → Q v H
theorem vals_at {xs : List V} {us : List Value} (r : Vals xs us) : ∀ {i : Nat} {u : Value}, us[i]? = some u → ∃ x, xs[i]? = some x ∧ RelV x u := by
  induction r with
  | nil => intro i u h; simp at h
  | cons h t ih =>
    intro i u hu
    cases i with
    | zero => simp only [List.getElem?_cons_zero, Option.some.injEq] at hu; subst hu; exact ⟨_, rfl, h⟩
    | succ i => rw [List.getElem?_cons_succ] at hu ⊢; exact ih hu
theorem rpA_at {Hm : Hp} : ∀ {xs : List V} {ds : List PyData} {i : Nat} {x : V}, RpA Hm xs ds → xs[i]? = some x → ∃ d, ds[i]? = some d ∧ Rp Hm x d
  | [], _, i, x, _, h => by simp at h
  | y :: xs, _, i, x, r, h => by
    cases r with
    | cons r1 r2 =>
      cases i with
      | zero => rw [List.getElem?_cons_zero] at h ⊢; cases h; exact ⟨_, rfl, r1⟩
      | succ i => rw [List.getElem?_cons_succ] at h ⊢; exact rpA_at r2 h
theorem cr_minD {X : Cx} (hc : X.calm = true) (hu : X.A.units + 66 < cLine) : CallR X (.builtin "min") rMinD := by
  intro pins s σ H vs us Q I r h
  obtain ⟨Hm, a, xs, d, ds, rfl, ex, hs, hx, hal, hsh, q⟩ := h
  obtain ⟨its, rv, hl, hz⟩ := I.list (SqL.of (K := X.K) hs)
  obtain ⟨u, rfl, ru⟩ := vals1 r
  obtain rfl : u = Value.ref a := ru
  obtain ⟨as, hr⟩ := Dp.readsAll I _ _ _ (RpA.dp _ _ (hx.mono ex)) rv
  have sh : PyData.canLayAll0 (d :: ds) = true ∧ PyData.depthAll (d :: ds) ≤ 63 := by
    unfold SeqAt.shaped at hsh
    rw [Bool.and_eq_true, decide_eq_true_iff] at hsh
    refine ⟨by simpa [PyData.canLay0] using hsh.1, ?_⟩
    have := hsh.2
    simp only [PyData.depth] at this
    omega
  refine min_list_data (I.ok.hd hc) hl.isList (as := as) (by simpa using hr) hal (by omega) fun i v h' tk bs hv hm hk => ?_
  have hv' : its[i]? = some v := by simpa using hv
  obtain ⟨x, hx1, rx⟩ := vals_at rv hv'
  obtain ⟨d', hd1, rd⟩ := rpA_at hx hx1
  obtain ⟨bs', hm'⟩ := Dp.reads I _ _ _ (rd.mono ex).dp rx
  have hm2 : Reads h' v d' bs' := PyProof.Rows.Reads.keeps hk hm'
  have mem : ∀ y ∈ d :: ds, y.canLay0 = true := by
    have : ∀ l : List PyData, PyData.canLayAll0 l = true → ∀ y ∈ l, y.canLay0 = true := by
      intro l
      induction l with
      | nil => intro _ y hy; cases hy
      | cons a l ih =>
        intro h y hy
        simp only [PyData.canLayAll0, Bool.and_eq_true] at h
        rcases List.mem_cons.mp hy with e | e
        · rw [e]; exact h.1
        · exact ih h.2 y e
    exact this _ sh.1
  have fm : ∀ (l : List PyData) (x : PyData), l.foldl (fun a y => if dataLt y a then y else a) x ∈ x :: l := by
    intro l
    induction l with
    | nil => intro x; exact List.mem_cons_self
    | cons a l ih =>
      intro x
      rw [List.foldl_cons]
      split
      · exact List.mem_cons_of_mem _ (ih a)
      · rcases List.mem_cons.mp (ih x) with e | e
        · rw [e]; exact List.mem_cons_self
        · exact List.mem_cons_of_mem _ (List.mem_cons_of_mem _ e)
  have e1 := SeqAt.readOf_eq (mem _ (List.mem_of_getElem? hd1)) hm2
  have e2 := SeqAt.readOf_eq (mem _ (fm ds d)) hm
  have ed : d' = minD d ds := by rw [← e1]; exact e2
  subst ed
  exact ⟨x, H, I.kept (t' := tk) hk, rx, q x rd⟩
section
variable {X : Cx} {ρ : List SD} {a : Expr} {ds : List PyData} {d : PyData} {p pos : Pos} {n : Nat}
theorem ev_sortedL (hr : Room n X.A) (hg : Gl X "sorted") (hm : X.mg "sorted" = none) (ha : Ev X ρ a (.list ds)) (hS : Srt ds) (hs : starEach [a] X.env = (false, eval a X.env) :: starEach [] X.env := by rfl) : Ev X ρ (.Call (.Name "sorted" p) [a] [] pos) (.list (sortD ds)) :=
  ev_callB (cr_sortD (room65 hr)) hg hm (by decide +kernel) (ea_cons ha ea_nil hs) (fun O H xs Q al r k => by
    obtain ⟨v, rfl, r1⟩ := rpA1 r
    cases r1 with
    | lst h1 h2 h3 =>
      exact ⟨_, _, _, ds, rfl, Ex.unmsk, .inl (msk_some h1).2, h3, hS, h2, fun ys q hy hq => k.lst al rfl (by unfold sortD; rw [List.length_mergeSort]; exact h2) hy q hq⟩) (by decide) (by decide) hs rfl
theorem ev_sortedT (hr : Room n X.A) (hg : Gl X "sorted") (hm : X.mg "sorted" = none) (ha : Ev X ρ a (.tuple ds)) (hS : Srt ds) (hs : starEach [a] X.env = (false, eval a X.env) :: starEach [] X.env := by rfl) : Ev X ρ (.Call (.Name "sorted" p) [a] [] pos) (.list (sortD ds)) :=
  ev_callB (cr_sortD (room65 hr)) hg hm (by decide +kernel) (ea_cons ha ea_nil hs) (fun O H xs Q al r k => by
    obtain ⟨v, rfl, r1⟩ := rpA1 r
    cases r1 with
    | tup h1 h2 h3 =>
      exact ⟨_, _, _, ds, rfl, Ex.unmsk, .inr (msk_some h1).2, h3, hS, h2, fun ys q hy hq => k.lst al rfl (by unfold sortD; rw [List.length_mergeSort]; exact h2) hy q hq⟩) (by decide) (by decide) hs rfl
theorem ev_minL (hc : X.calm = true) (hr : Room n X.A) (hg : Gl X "min") (hm : X.mg "min" = none) (ha : Ev X ρ a (.list (d :: ds))) (hA : AlikeAll (d :: ds)) (hsh : SeqAt.shaped (.list (d :: ds)) = true) (hs : starEach [a] X.env = (false, eval a X.env) :: starEach [] X.env := by rfl) : Ev X ρ (.Call (.Name "min" p) [a] [] pos) (minD d ds) :=
  ev_callB (cr_minD hc (by have := hr.un; omega)) hg hm (by decide +kernel) (ea_cons ha ea_nil hs) (fun O H xs Q al r k => by
    obtain ⟨v, rfl, r1⟩ := rpA1 r
    cases r1 with
    | lst h1 h2 h3 => exact ⟨_, _, _, d, ds, rfl, Ex.unmsk, (msk_some h1).2, h3, hA, hsh, fun v hv => k.here rfl hv⟩) (by decide) (by decide) hs rfl
end
/-! ### rows of ints -/
abbrev rowD (xs : List Int) : PyData := .tuple (xs.map PyData.int)
theorem lt_row (xs ys : List Int) : dataLt (rowD xs) (rowD ys) = decide (xs < ys) := by
  show dataLt (.tuple (xs.map PyData.int)) (.tuple (ys.map PyData.int)) = _
  rw [dataLt_tuple]
  exact dataLt_ints xs ys
theorem alike_row (xs ys : List Int) : alike (rowD xs) (rowD ys) = true := by
  show alike (.tuple (xs.map PyData.int)) (.tuple (ys.map PyData.int)) = true
  simp only [alike]
  exact alike_ints xs ys
def sortR (rows : List (List Int)) : List (List Int) := rows.mergeSort fun a b => !decide (b < a)
theorem sort_rows (rows : List (List Int)) : sortD (rows.map rowD) = (sortR rows).map rowD := by
  unfold sortD sortR
  rw [← List.map_mergeSort (r := fun a b => !decide (b < a)) (s := dataLe false id) (f := rowD) (fun a _ b _ => by rw [dataLe_eq]; show (!decide (b < a)) = !dataLt (rowD b) (rowD a); rw [lt_row])]
theorem depth_row (xs : List Int) : (rowD xs).depth ≤ 1 := by
  show PyData.depth (.tuple (xs.map PyData.int)) ≤ 1
  simp only [PyData.depth]
  have := depth_ints xs
  omega
theorem srt_rows {rows : List (List Int)} (h : (∀ r ∈ rows, r ≠ []) ∨ rows.length ≤ 1) : Srt (rows.map rowD) := by
  refine ⟨fun d hd d' hd' => ?_, ?_, fun d hd => ?_⟩
  · obtain ⟨a, _, rfl⟩ := List.mem_map.mp hd
    obtain ⟨b, _, rfl⟩ := List.mem_map.mp hd'
    exact alike_row a b
  · rcases h with h | h
    · refine .inl (.inl fun d hd => ?_)
      obtain ⟨a, ha, rfl⟩ := List.mem_map.mp hd
      cases a with
      | nil => exact absurd rfl (h _ ha)
      | cons x r => exact ⟨_, _, rfl⟩
    · exact .inr (by rw [List.length_map]; exact h)
  · obtain ⟨a, _, rfl⟩ := List.mem_map.mp hd
    have := depth_row a
    exact ⟨(fun z => by cases z), by omega⟩
/-- the least, by what comes first -/
def minF {α : Type} (lt : α → α → Bool) (x : α) (xs : List α) : α := xs.foldl (fun a y => if lt y a then y else a) x
theorem minD_map {α : Type} (e : α → PyData) (lt : α → α → Bool) (h : ∀ a b, dataLt (e a) (e b) = lt a b) (x : α) (xs : List α) : minD (e x) (xs.map e) = e (minF lt x xs) := by
  unfold minD minF
  rw [List.foldl_map]
  induction xs generalizing x with
  | nil => rfl
  | cons a l ih =>
    rw [List.foldl_cons, List.foldl_cons, h]
    cases lt a x
    · exact ih x
    · exact ih a
/-- (how many, row) -/
abbrev lenD (xs : List Int) : PyData := .tuple [.int (xs.length : Nat), rowD xs]
def lenLt (a b : List Int) : Bool := if a.length = b.length then decide (a < b) else decide (a.length < b.length)
theorem eqv_row : ∀ xs ys : List Int, PyData.eqv (rowD xs) (rowD ys) = decide (xs = ys) := by
  intro xs ys
  show PyData.eqv (.tuple (xs.map PyData.int)) (.tuple (ys.map PyData.int)) = _
  simp only [PyData.eqv]
  induction xs generalizing ys with
  | nil => cases ys <;> simp [PyData.eqvAll]
  | cons x xs ih =>
    cases ys with
    | nil => simp [PyData.eqvAll]
    | cons y ys =>
      simp only [List.map_cons, PyData.eqvAll, PyData.eqv, ih ys]
      rw [Bool.eq_iff_iff]
      simp
theorem lt_len (a b : List Int) : dataLt (lenD a) (lenD b) = lenLt a b := by
  show dataLt (.tuple [.int (a.length : Nat), rowD a]) (.tuple [.int (b.length : Nat), rowD b]) = _
  rw [dataLt_pair (by simp [alike]) (alike_row a b), eqv_row, lt_row, dataLt_int]
  unfold lenLt
  by_cases e : a.length = b.length
  · rw [if_pos (by simp [PyData.eqv, e]), if_pos e]
    by_cases e2 : a = b
    · subst e2; simp [List.lt_irrefl]
    · rw [if_neg (by simpa using e2)]
  · rw [if_neg (by simp [PyData.eqv]; omega), if_neg e]
    rw [Bool.eq_iff_iff]; simp
theorem alike_lenD (xs ys : List Int) : alike (lenD xs) (lenD ys) = true := by
  have := alike_row xs ys
  simp only [alike, alikeAll] at this ⊢
  simp [this]
end PL

namespace Mus
open PySem PySem.Spec PyProof.Rows L2 PL
/-! ## ascending rows -/
theorem asc_nodup {s : List Int} (h : asc s = true) : s.Nodup := ((asc_iff s).mp h).imp fun h => by omega
theorem asc_ext : ∀ {s t : List Int}, asc s = true → asc t = true → (∀ x, x ∈ s ↔ x ∈ t) → s = t
  | [], [], _, _, _ => rfl
  | [], b :: t, _, _, h => absurd ((h b).mpr List.mem_cons_self) (by simp)
  | a :: s, [], _, _, h => absurd ((h a).mp List.mem_cons_self) (by simp)
  | a :: s, b :: t, h1, h2, h => by
    have p1 := List.pairwise_cons.mp ((asc_iff _).mp h1)
    have p2 := List.pairwise_cons.mp ((asc_iff _).mp h2)
    have e : a = b := by
      rcases List.mem_cons.mp ((h a).mp List.mem_cons_self) with q | q
      · exact q
      · rcases List.mem_cons.mp ((h b).mpr List.mem_cons_self) with r | r
        · exact r.symm
        · have := p2.1 a q
          have := p1.1 b r
          omega
    subst e
    have : s = t := asc_ext ((asc_iff s).mpr p1.2) ((asc_iff t).mpr p2.2) fun x => by
      constructor
      · intro hx
        rcases List.mem_cons.mp ((h x).mp (List.mem_cons_of_mem _ hx)) with q | q
        · have := p1.1 x hx; omega
        · exact q
      · intro hx
        rcases List.mem_cons.mp ((h x).mpr (List.mem_cons_of_mem _ hx)) with q | q
        · have := p2.1 x hx; omega
        · exact q
    rw [this]
theorem asc_filter {s : List Int} (h : asc s = true) (q : Int → Bool) : asc (s.filter q) = true := asc_sub List.filter_sublist ((asc_iff s).mp h)
theorem sub_of_mem {s t : List Int} (hs : asc s = true) (ht : asc t = true) (h : ∀ x ∈ s, x ∈ t) : s.Sublist t := by
  have e : s = t.filter fun x => decide (x ∈ s) := asc_ext hs (asc_filter ht _) fun x => by
    rw [List.mem_filter, decide_eq_true_iff]
    exact ⟨fun hx => ⟨h x hx, hx⟩, fun hx => hx.2⟩
  rw [e]
  exact List.filter_sublist
def subs : Nat → List (List Int)
  | 0 => [[]]
  | n + 1 => subs n ++ (subs n).map fun r => r ++ [(n : Int)]
theorem subs_len : ∀ n, (subs n).length = 2 ^ n
  | 0 => rfl
  | n + 1 => by
    show (subs n ++ (subs n).map _).length = _
    rw [List.length_append, List.length_map, subs_len n, Nat.pow_succ]; omega
theorem mem_subs : ∀ {n : Nat} {s : List Int}, s ∈ subs n ↔ asc s = true ∧ ∀ x ∈ s, 0 ≤ x ∧ x < n
  | 0, s => by
    constructor
    · intro h
      rw [List.mem_singleton.mp h]
      exact ⟨rfl, by simp⟩
    · rintro ⟨_, h⟩
      cases s with
      | nil => exact List.mem_singleton.mpr rfl
      | cons a s => have := h a List.mem_cons_self; omega
  | n + 1, s => by
    show s ∈ subs n ++ (subs n).map (fun r => r ++ [(n : Int)]) ↔ _
    rw [List.mem_append, List.mem_map]
    constructor
    · rintro (h | ⟨r, h, rfl⟩)
      · obtain ⟨h1, h2⟩ := mem_subs.mp h
        exact ⟨h1, fun x hx => by have := h2 x hx; omega⟩
      · obtain ⟨h1, h2⟩ := mem_subs.mp h
        refine ⟨?_, fun x hx => ?_⟩
        · rw [asc_iff, List.pairwise_append]
          refine ⟨(asc_iff r).mp h1, by simp, fun a ha b hb => ?_⟩
          rw [List.mem_singleton.mp hb]
          exact (h2 a ha).2
        · rcases List.mem_append.mp hx with q | q
          · have := h2 x q; omega
          · rw [List.mem_singleton.mp q]; omega
    · rintro ⟨h1, h2⟩
      by_cases c : (n : Int) ∈ s
      · right
        refine ⟨s.filter fun x => decide (x < (n : Int)), mem_subs.mpr ⟨asc_filter h1 _, fun x hx => ?_⟩, ?_⟩
        · obtain ⟨a, b⟩ := List.mem_filter.mp hx
          exact ⟨(h2 x a).1, of_decide_eq_true b⟩
        · refine asc_ext ?_ h1 fun x => ?_
          · rw [asc_iff, List.pairwise_append]
            refine ⟨(asc_iff _).mp (asc_filter h1 _), by simp, fun a ha b hb => ?_⟩
            rw [List.mem_singleton.mp hb]
            exact of_decide_eq_true (List.mem_filter.mp ha).2
          · rw [List.mem_append, List.mem_filter, List.mem_singleton, decide_eq_true_iff]
            constructor
            · rintro (h | h)
              · exact h.1
              · rw [h]; exact c
            · intro hx
              have := h2 x hx
              by_cases e : x = n
              · exact Or.inr e
              · exact Or.inl ⟨hx, by omega⟩
      · left
        refine mem_subs.mpr ⟨h1, fun x hx => ?_⟩
        have := h2 x hx
        have : x ≠ n := fun e => c (e ▸ hx)
        omega
theorem subs_nodup : ∀ n, (subs n).Nodup
  | 0 => by simp [subs]
  | n + 1 => by
    show (subs n ++ (subs n).map fun r => r ++ [(n : Int)]).Nodup
    rw [List.nodup_append]
    refine ⟨subs_nodup n, (List.pairwise_map.mpr ((subs_nodup n).imp fun {a b} h e => h (List.append_inj_left' e rfl))), fun a ha b hb e => ?_⟩
    subst e
    obtain ⟨r, _, rfl⟩ := List.mem_map.mp hb
    have := (mem_subs.mp ha).2 n (List.mem_append_right _ List.mem_cons_self)
    omega
theorem subs_some {p : Plan} {s : List Int} : s ∈ subs p.wishes.length ↔ SomeOk p s := by
  rw [mem_subs]
  exact ⟨fun ⟨h1, h2⟩ => ⟨fun x hx => (h2 x hx).1, fun x hx => (h2 x hx).2, h1⟩, fun ⟨h1, h2, h3⟩ => ⟨h3, fun x hx => ⟨h1 x hx, h2 x hx⟩⟩⟩
/-! ## sorted rows -/
theorem lt_tri (a b : List Int) : a < b ∨ a = b ∨ b < a := by
  rcases Decidable.em (a < b) with h | h
  · exact Or.inl h
  · rcases Decidable.em (b < a) with h2 | h2
    · exact Or.inr (Or.inr h2)
    · exact Or.inr (Or.inl (List.le_antisymm (List.not_lt.mp h2) (List.not_lt.mp h)))
theorem sortR_perm (l : List (List Int)) : (sortR l).Perm l := List.mergeSort_perm ..
theorem sortR_mem {l : List (List Int)} {r : List Int} : r ∈ sortR l ↔ r ∈ l := (sortR_perm l).mem_iff
theorem sortR_len (l : List (List Int)) : (sortR l).length = l.length := (sortR_perm l).length_eq
theorem sortR_sorted (l : List (List Int)) : (sortR l).Pairwise fun a b => ¬ b < a := by
  have h := List.pairwise_mergeSort (le := fun a b : List Int => !decide (b < a)) (fun a b c h1 h2 => by
    simp only [Bool.not_eq_true', decide_eq_false_iff_not] at h1 h2 ⊢
    rw [List.not_lt] at h1 h2 ⊢
    exact List.le_trans h1 h2) (fun a b => by
    rw [Bool.or_eq_true]
    simp only [Bool.not_eq_true', decide_eq_false_iff_not, List.not_lt]
    exact List.le_total a b) l
  exact h.imp fun h => by simpa using h
theorem sorted_uniq : ∀ {l m : List (List Int)}, l.Pairwise (fun a b => ¬ b < a) → m.Pairwise (fun a b => ¬ b < a) → l.Perm m → l = m := fun {l m} h1 h2 p => p.eq_of_pairwise (le := fun a b => ¬ b < a) (fun a b _ _ h1 h2 => by
  rcases lt_tri a b with h | h | h
  · exact absurd h h2
  · exact h
  · exact absurd h h1) h1 h2
theorem sortR_cong {l m : List (List Int)} (h : l.Perm m) : sortR l = sortR m := sorted_uniq (sortR_sorted l) (sortR_sorted m) ((sortR_perm l).trans (h.trans (sortR_perm m).symm))
/-! ## mirrors: clashing.py -/
def isClash (p : Plan) (s : List Int) : Bool := !good p s && (List.range s.length).all fun i => good p (less s i)
def clashesOf (p : Plan) : List (List Int) := sortR ((subs p.wishes.length).filter (isClash p))
def within (one other : List Int) : Bool := one.all fun x => decide (x ∈ other)
def headMin {α : Type} (lt : α → α → Bool) : List α → Option α
  | [] => none
  | a :: l => some (minF lt a l)
def clashIn (p : Plan) (s : List Int) : Option (List Int) := headMin lenLt ((clashesOf p).filter fun r => within r s)
def goodOnes (p : Plan) : List (List Int) := (subs p.wishes.length).filter (good p)
def maxL (l : List (List Int)) : Nat := l.foldl (fun m r => max m r.length) 0
def largest (p : Plan) : List (List Int) := sortR ((goodOnes p).filter fun r => decide (r.length = maxL (goodOnes p)))
def mostGranted (p : Plan) : Nat := maxL (goodOnes p)
def best (p : Plan) : List Int := (largest p).headD []
def others (p : Plan) (s : List Int) : List Int := (rangeD 0 p.wishes.length).filter fun x => decide (x ∉ s)
def toRefuse (p : Plan) : List Int := (headMin (fun a b => decide (a < b)) ((largest p).map (others p))).getD []
def apartF : Nat → List (List Int) → Nat
  | 0, _ => 0
  | _, [] => 0
  | n + 1, a :: l => max (apartF n l) (1 + apartF n (l.filter fun r => !r.any fun x => decide (x ∈ a)))
def mostApart (l : List (List Int)) : Nat := apartF l.length l
def roleOf (p : Plan) (w : Int) : Str := if (largest p).all (fun r => decide (w ∈ r)) then "sure" else if (largest p).any (fun r => decide (w ∈ r)) then "open" else "lost"
def added (p : Plan) (s : List Int) : List Int := (others p s).filter fun x => areGood p (named p (s ++ [x]))
end Mus

namespace Mus
open PySem PySem.Spec PyProof.Rows L2 PL
theorem ev_maxL {X : Cx} {ρ : List SD} {a : Expr} {p pos : Pos} {ns : List Int} {m : Int} (hc : X.calm = true) (hg : Gl X "max") (hm : X.mg "max" = none) (ha : Ev X ρ a (.list (ns.map PyData.int))) (h1 : m ∈ ns) (h2 : ∀ y ∈ ns, y ≤ m) (hs : starEach [a] X.env = (false, eval a X.env) :: starEach [] X.env := by rfl) : Ev X ρ (.Call (.Name "max" p) [a] [] pos) (.int m) :=
  ev_callB (cr_max hc) hg hm (by decide +kernel) (ea_cons ha ea_nil hs) (cd_max h1 h2) (by decide) (by decide) hs rfl
theorem foldl_max (l : List (List Int)) (m : Nat) : (∀ r ∈ l, r.length ≤ l.foldl (fun m r => max m r.length) m) ∧ m ≤ l.foldl (fun m r => max m r.length) m ∧ (l.foldl (fun m r => max m r.length) m = m ∨ ∃ r ∈ l, r.length = l.foldl (fun m r => max m r.length) m) := by
  induction l generalizing m with
  | nil => exact ⟨by simp, Nat.le_refl _, Or.inl rfl⟩
  | cons a l ih =>
    obtain ⟨h1, h2, h3⟩ := ih (max m a.length)
    rw [List.foldl_cons]
    refine ⟨fun r hr => ?_, by omega, ?_⟩
    · rcases List.mem_cons.mp hr with e | e
      · rw [e]; omega
      · exact h1 r e
    · rcases h3 with h3 | ⟨r, hr, h3⟩
      · by_cases c : m ≤ a.length
        · right; exact ⟨a, List.mem_cons_self, by rw [h3]; omega⟩
        · left; rw [h3]; omega
      · right; exact ⟨r, List.mem_cons_of_mem _ hr, h3⟩
theorem le_maxL {l : List (List Int)} {r : List Int} (h : r ∈ l) : r.length ≤ maxL l := (foldl_max l 0).1 r h
theorem maxL_at {l : List (List Int)} (h : l ≠ []) : ∃ r ∈ l, r.length = maxL l := by
  rcases (foldl_max l 0).2.2 with e | e
  · obtain ⟨r, hr⟩ := List.exists_mem_of_ne_nil l h
    have := le_maxL hr
    exact ⟨r, hr, by unfold maxL at *; omega⟩
  · exact e
theorem nil_good {p : Plan} (hp : p.Ok) : ([] : List Int) ∈ goodOnes p := List.mem_filter.mpr ⟨subs_some.mpr ⟨by simp, by simp, rfl⟩, good_nil hp⟩
theorem mem_good {p : Plan} {s : List Int} : s ∈ goodOnes p ↔ SomeOk p s ∧ good p s = true := by
  unfold goodOnes; rw [List.mem_filter, subs_some]
theorem mem_largest {p : Plan} {s : List Int} : s ∈ largest p ↔ (SomeOk p s ∧ good p s = true) ∧ s.length = mostGranted p := by
  unfold largest
  rw [sortR_mem, List.mem_filter, mem_good, decide_eq_true_iff]
  exact Iff.rfl
theorem largest_ne {p : Plan} (hp : p.Ok) : largest p ≠ [] := by
  obtain ⟨r, hr, e⟩ := maxL_at (List.ne_nil_of_mem (nil_good hp))
  exact List.ne_nil_of_mem (mem_largest.mpr ⟨mem_good.mp hr, e⟩)
theorem le_most {p : Plan} {s : List Int} (hs : SomeOk p s) (hg : good p s = true) : s.length ≤ mostGranted p := le_maxL (mem_good.mpr ⟨hs, hg⟩)
theorem subs_le {p : Plan} (hp : p.Ok) : (subs p.wishes.length).length ≤ 256 := by
  rw [subs_len]
  exact Nat.pow_le_pow_right (by decide) hp.w8
theorem goodOnes_le {p : Plan} (hp : p.Ok) : (goodOnes p).length ≤ 256 := Nat.le_trans (List.length_filter_le ..) (subs_le hp)
theorem largest_le {p : Plan} (hp : p.Ok) : (largest p).length ≤ 256 := by
  unfold largest
  rw [sortR_len]
  exact Nat.le_trans (List.length_filter_le ..) (goodOnes_le hp)
theorem clashes_le {p : Plan} (hp : p.Ok) : (clashesOf p).length ≤ 2 ^ p.wishes.length := by
  unfold clashesOf
  rw [sortR_len, ← subs_len]
  exact List.length_filter_le ..
theorem clashes_128 {p : Plan} (hp : p.Ok) (h7 : p.wishes.length ≤ 7) : (clashesOf p).length ≤ 128 := Nat.le_trans (clashes_le hp) (Nat.pow_le_pow_right (n := 2) (by decide) h7)
theorem mem_clashes {p : Plan} {s : List Int} : s ∈ clashesOf p ↔ SomeOk p s ∧ isClash p s = true := by
  unfold clashesOf; rw [sortR_mem, List.mem_filter, subs_some]
theorem clash_ne {p : Plan} (hp : p.Ok) {s : List Int} (h : isClash p s = true) : s ≠ [] := fun e => by
  subst e
  unfold isClash at h
  rw [good_nil hp] at h
  cases h
theorem largest_srt {p : Plan} (hp : p.Ok) : Srt (((goodOnes p).filter fun r => decide (r.length = maxL (goodOnes p))).map rowD) := by
  refine srt_rows ?_
  by_cases c : maxL (goodOnes p) = 0
  · right
    have nd : ((goodOnes p).filter fun r => decide (r.length = maxL (goodOnes p))).Nodup := ((subs_nodup _).filter _).filter _
    have h : ∀ r ∈ (goodOnes p).filter (fun r => decide (r.length = maxL (goodOnes p))), r = [] := fun r hr => by
      have := of_decide_eq_true (List.mem_filter.mp hr).2
      rw [c] at this
      exact List.eq_nil_of_length_eq_zero this
    generalize (goodOnes p).filter (fun r => decide (r.length = maxL (goodOnes p))) = l at nd h
    match l, nd, h with
    | [], _, _ => exact Nat.zero_le _
    | [a], _, _ => exact Nat.le_refl _
    | a :: b :: l, nd, h =>
      have e1 := h a List.mem_cons_self
      have e2 := h b (List.mem_cons_of_mem _ List.mem_cons_self)
      rw [e1, e2] at nd
      simp at nd
  · left
    intro r hr e
    have := of_decide_eq_true (List.mem_filter.mp hr).2
    rw [e] at this
    exact c this.symm
theorem clashes_srt {p : Plan} (hp : p.Ok) : Srt (((subs p.wishes.length).filter (isClash p)).map rowD) := srt_rows (.inl fun r hr => clash_ne hp (List.mem_filter.mp hr).2)
theorem areSome_of {p : Plan} {d : PyData} (h : areSome p d = true) : ∃ s, d = eT s ∧ SomeOk p s := by
  cases d with
  | tuple ds =>
    unfold areSome at h
    rw [Bool.and_eq_true] at h
    have e := all_toI h.1
    refine ⟨ds.map toI, congrArg PyData.tuple e, fun x hx => ?_, fun x hx => ?_, h.2⟩
    all_goals
      obtain ⟨y, hy, rfl⟩ := List.mem_map.mp hx
      obtain ⟨i, rfl, h1, h2⟩ := isBetween_of (List.all_eq_true.mp h.1 y hy)
      simp only [toI]
      omega
  | _ => cases h
def clashD (p : Plan) : PyData → Bool
  | .tuple ds => isClash p (ds.map toI)
  | _ => false
theorem clashD_row (p : Plan) (s : List Int) : clashD p (eT s) = isClash p s := by
  show isClash p ((s.map PyData.int).map toI) = _
  rw [List.map_map]
  have : (toI ∘ PyData.int) = id := rfl
  rw [this, List.map_id]
abbrev eLT (rows : List (List Int)) : PyData := .list (rows.map eT)
abbrev eLTs (rows : List (List Int)) : List PyData := rows.map eT
theorem en_len : En lenD 2 := ⟨fun r => shp_tuple (n := 1) fun d hd => by
    simp only [List.mem_cons, List.not_mem_nil, or_false] at hd
    rcases hd with h | h
    · rw [h]; exact (shp_int _).mono (by decide)
    · rw [h]; exact en_T.shp _, fun a b => by
    have := eqv_row a b
    simp only [PyData.eqv] at this
    simp only [PyData.eqv, PyData.eqvAll, this]
    rw [Bool.eq_iff_iff]
    simp
    intro h; rw [h]⟩
/-! contracts: clashing.py -/
def c_subsets_of : Ct := ⟨Nat, fun n => [.int n], fun n => n ≤ 8, fun n => Eq (eLT (subs n))⟩
def c_good_ones : Ct := ⟨Plan, fun p => [eP p], fun p => p.Ok, fun p => Eq (eLT (goodOnes p))⟩
def c_is_clash_of : Ct := ⟨Plan × List Int, fun a => [eP a.1, eT a.2], fun a => a.1.Ok ∧ SomeOk a.1 a.2, fun a => Eq (.bool (isClash a.1 a.2))⟩
def c_clashes_of : Ct := ⟨Plan, fun p => [eP p], fun p => p.Ok, fun p => Eq (eLT (clashesOf p))⟩
def c_clashes : Ct := ⟨Plan, fun p => [eP p], fun p => p.Ok, fun p => Eq (.tuple ((clashesOf p).map eT))⟩
def c_is_clash : Ct := ⟨Plan × PyData, fun a => [eP a.1, a.2], fun a => a.1.Ok, fun a => Eq (.bool (areSome a.1 a.2 && clashD a.1 a.2))⟩
def c_is_within : Ct := ⟨List Int × List Int, fun a => [eT a.1, eT a.2], fun _ => True, fun a => Eq (.bool (within a.1 a.2))⟩
def c_clash_in : Ct := ⟨Plan × List Int, fun a => [eP a.1, eT a.2], fun a => a.1.Ok ∧ SomeOk a.1 a.2, fun a => Eq (eOpt eT (clashIn a.1 a.2))⟩
def c_largest : Ct := ⟨Plan, fun p => [eP p], fun p => p.Ok, fun p => Eq (eLT (largest p))⟩
def c_most_granted : Ct := ⟨Plan, fun p => [eP p], fun p => p.Ok, fun p => Eq (.int (mostGranted p : Nat))⟩
def c_best : Ct := ⟨Plan, fun p => [eP p], fun p => p.Ok, fun p => Eq (eT (best p))⟩
def c_count_best : Ct := ⟨Plan, fun p => [eP p], fun p => p.Ok, fun p => Eq (.int ((largest p).length : Nat))⟩
def c_to_refuse : Ct := ⟨Plan, fun p => [eP p], fun p => p.Ok, fun p => Eq (eT (toRefuse p))⟩
def c_most_apart (k : Nat) : Ct := ⟨List (List Int), fun l => [eLT l], fun l => l.length ≤ k ∧ l.length ≤ 4096, fun l => Eq (.int (mostApart l : Nat))⟩
theorem apartF_eq : ∀ (n : Nat) (l : List (List Int)), l.length ≤ n → apartF n l = apartF l.length l
  | 0, l, h => by
    have : l = [] := List.eq_nil_of_length_eq_zero (by omega)
    subst this; rfl
  | n + 1, [], _ => by cases n <;> rfl
  | n + 1, a :: l, h => by
    have h1 : l.length ≤ n := by rw [List.length_cons] at h; omega
    have h2 : (l.filter fun r => !r.any fun x => decide (x ∈ a)).length ≤ l.length := List.length_filter_le ..
    show max (apartF n l) (1 + apartF n (l.filter fun r => !r.any fun x => decide (x ∈ a))) = max (apartF l.length l) (1 + apartF l.length (l.filter fun r => !r.any fun x => decide (x ∈ a)))
    rw [apartF_eq n l h1, apartF_eq n _ (by omega), apartF_eq l.length _ h2]
def free (a : List Int) (l : List (List Int)) : List (List Int) := l.filter fun r => !r.any fun x => decide (x ∈ a)
theorem mostApart_nil : mostApart [] = 0 := rfl
theorem mostApart_cons (a : List Int) (l : List (List Int)) : mostApart (a :: l) = max (mostApart l) (1 + mostApart (free a l)) := by
  show max (apartF l.length l) (1 + apartF l.length (free a l)) = _
  rw [apartF_eq l.length (free a l) (List.length_filter_le ..)]
  rfl
def c_apart : Ct := ⟨Plan, fun p => [eP p], fun p => p.Ok ∧ (clashesOf p).length ≤ 128, fun p => Eq (.int (mostApart (clashesOf p) : Nat))⟩
def c_check_wish : Ct := ⟨Plan × Int, fun a => [eP a.1, .int a.2], fun a => a.1.Ok ∧ 0 ≤ a.2 ∧ a.2 < a.1.wishes.length, fun _ => Eq .none⟩
def c_role : Ct := ⟨Plan × Int, fun a => [eP a.1, .int a.2], fun a => a.1.Ok ∧ 0 ≤ a.2 ∧ a.2 < a.1.wishes.length, fun a => Eq (.str (roleOf a.1 a.2))⟩
def c_check_good : Ct := ⟨Plan × List Int, fun a => [eP a.1, eT a.2], fun a => a.1.Ok ∧ SomeOk a.1 a.2 ∧ good a.1 a.2 = true, fun _ => Eq .none⟩
def c_added_to : Ct := ⟨Plan × List Int, fun a => [eP a.1, eT a.2], fun a => a.1.Ok ∧ SomeOk a.1 a.2, fun a => Eq (.list ((added a.1 a.2).map PyData.int))⟩
def c_can_add : Ct := ⟨Plan × List Int, fun a => [eP a.1, eT a.2], fun a => a.1.Ok ∧ SomeOk a.1 a.2 ∧ good a.1 a.2 = true, fun a => Eq (eT (added a.1 a.2))⟩
def c_check_number : Ct := ⟨Int × Int × Int, fun a => [.int a.1, .int a.2.1, .int a.2.2], fun a => a.2.1 ≤ a.1 ∧ a.1 ≤ a.2.2, fun _ => Eq .none⟩
end Mus

namespace Mus
open PySem PySem.Spec PyProof.Rows L2 PL
/-! ## clashes: the plain law -/
theorem good_sub {p : Plan} (hp : p.Ok) {s t : List Int} (hs : SomeOk p s) (k : t.Sublist s) (h : good p s = true) : good p t = true := good_mono hp (Ease.refl p) hs.rng k h
/-- what is left out is at some place -/
theorem sub_less {s t : List Int} (k : t.Sublist s) (h : t.length < s.length) : ∃ i, i < s.length ∧ t.Sublist (less s i) := by
  induction k with
  | slnil => simp at h
  | @cons t s a k ih =>
    exact ⟨0, by simp, by unfold less; simpa using k⟩
  | @cons_cons t s a k ih =>
    obtain ⟨i, hi, hk⟩ := ih (by simpa using h)
    refine ⟨i + 1, by simpa using hi, ?_⟩
    unfold less at hk ⊢
    simp only [List.take_succ_cons, List.drop_succ_cons, List.cons_append]
    exact hk.cons_cons a
theorem less_len {s : List Int} {i : Nat} (h : i < s.length) : (less s i).length + 1 = s.length := by
  unfold less
  rw [List.length_append, List.length_take, List.length_drop]
  omega
theorem isClash_iff {p : Plan} {s : List Int} : isClash p s = true ↔ good p s = false ∧ ∀ i, i < s.length → good p (less s i) = true := by
  unfold isClash
  rw [Bool.and_eq_true, Bool.not_eq_true', List.all_eq_true]
  exact and_congr Iff.rfl ⟨fun h i hi => h i (List.mem_range.mpr hi), fun h i hi => h i (List.mem_range.mp hi)⟩
/-- proper parts of a clash are good -/
theorem clash_part {p : Plan} (hp : p.Ok) {s t : List Int} (hs : SomeOk p s) (hc : isClash p s = true) (k : t.Sublist s) (h : t ≠ s) : good p t = true := by
  have hl : t.length < s.length := Nat.lt_of_le_of_ne k.length_le fun e => h (k.eq_of_length e)
  obtain ⟨i, hi, hk⟩ := sub_less k hl
  exact good_sub hp (hs.sub (less_sub s i)) hk ((isClash_iff.mp hc).2 i hi)
/-- within wishes that are not good there is a clash -/
theorem clash_ex {p : Plan} (hp : p.Ok) : ∀ (n : Nat) (s : List Int), s.length ≤ n → SomeOk p s → good p s = false → ∃ t, t.Sublist s ∧ isClash p t = true
  | 0, s, hl, hs, hg => by
    have : s = [] := List.eq_nil_of_length_eq_zero (by omega)
    subst this
    rw [good_nil hp] at hg; cases hg
  | n + 1, s, hl, hs, hg => by
    by_cases c : ∀ i, i < s.length → good p (less s i) = true
    · exact ⟨s, List.Sublist.refl _, isClash_iff.mpr ⟨hg, c⟩⟩
    · simp only [Classical.not_forall, Bool.not_eq_true] at c
      obtain ⟨i, hi, c⟩ := c
      have := less_len hi
      obtain ⟨t, h1, h2⟩ := clash_ex hp n (less s i) (by omega) (hs.sub (less_sub s i)) c
      exact ⟨t, h1.trans (less_sub s i), h2⟩
theorem within_iff {a b : List Int} : within a b = true ↔ ∀ x ∈ a, x ∈ b := by
  unfold within
  rw [List.all_eq_true]
  exact ⟨fun h x hx => of_decide_eq_true (h x hx), fun h x hx => decide_eq_true (h x hx)⟩
theorem within_sub {p : Plan} {a b : List Int} (ha : SomeOk p a) (hb : SomeOk p b) : within a b = true ↔ a.Sublist b := by
  rw [within_iff]
  exact ⟨fun h => sub_of_mem ha.as hb.as h, fun h x hx => h.subset hx⟩
theorem minF_mem {α : Type} (lt : α → α → Bool) (l : List α) : ∀ a, minF lt a l ∈ a :: l := by
  induction l with
  | nil => intro a; exact List.mem_cons_self
  | cons b l ih =>
    intro a
    unfold minF
    rw [List.foldl_cons]
    split
    · exact List.mem_cons_of_mem _ (ih b)
    · rcases List.mem_cons.mp (ih a) with e | e
      · rw [show l.foldl (fun a y => if lt y a then y else a) a = a from e]; exact List.mem_cons_self
      · exact List.mem_cons_of_mem _ (List.mem_cons_of_mem _ e)
theorem headMin_some {α : Type} {lt : α → α → Bool} {l : List α} {a : α} (h : headMin lt l = some a) : a ∈ l := by
  cases l with
  | nil => cases h
  | cons b l => rw [← Option.some.inj h]; exact minF_mem lt l b
theorem headMin_none {α : Type} {lt : α → α → Bool} {l : List α} : headMin lt l = none ↔ l = [] := by
  cases l with
  | nil => exact ⟨fun _ => rfl, fun _ => rfl⟩
  | cons b l => exact ⟨(fun h => by cases h), (fun h => by cases h)⟩
theorem clashIn_none {p : Plan} (hp : p.Ok) {s : List Int} (hs : SomeOk p s) : (clashIn p s).isNone = good p s := by
  rw [Bool.eq_iff_iff, Option.isNone_iff_eq_none]
  unfold clashIn
  rw [headMin_none, List.filter_eq_nil_iff]
  constructor
  · intro h
    cases c : good p s with
    | true => rfl
    | false =>
      obtain ⟨t, h1, h2⟩ := clash_ex hp s.length s (Nat.le_refl _) hs c
      exact absurd ((within_sub (hs.sub h1) hs).mpr h1) (h t (mem_clashes.mpr ⟨hs.sub h1, h2⟩))
  · intro h r hr hw
    obtain ⟨h1, h2⟩ := mem_clashes.mp hr
    have := good_sub hp hs ((within_sub h1 hs).mp hw) h
    rw [(isClash_iff.mp h2).1] at this
    cases this
theorem clashIn_some {p : Plan} {s t : List Int} (h : clashIn p s = some t) : t ∈ clashesOf p := (List.mem_filter.mp (headMin_some h)).1
/-- a clash lies within no other -/
theorem clash_anti {p : Plan} (hp : p.Ok) {r t : List Int} (hr : r ∈ clashesOf p) (ht : t ∈ clashesOf p) (h : ∀ x ∈ t, x ∈ r) : t = r := by
  obtain ⟨h1, h2⟩ := mem_clashes.mp hr
  obtain ⟨h3, h4⟩ := mem_clashes.mp ht
  refine Classical.byContradiction fun c => ?_
  have := clash_part hp h1 h2 ((within_sub h3 h1).mp (within_iff.mpr h)) c
  rw [(isClash_iff.mp h4).1] at this
  cases this
theorem clashes_nodup (p : Plan) : (clashesOf p).Nodup := (sortR_perm _).symm.nodup ((subs_nodup _).filter _)
theorem clashIn_self {p : Plan} (hp : p.Ok) {r : List Int} (hr : r ∈ clashesOf p) : clashIn p r = some r := by
  unfold clashIn
  have e : (clashesOf p).filter (fun t => within t r) = [r] := by
    have h1 : ∀ t ∈ (clashesOf p).filter (fun t => within t r), t = r := fun t ht => clash_anti hp hr (List.mem_filter.mp ht).1 (within_iff.mp (List.mem_filter.mp ht).2)
    have h2 : r ∈ (clashesOf p).filter (fun t => within t r) := List.mem_filter.mpr ⟨hr, within_iff.mpr fun x hx => hx⟩
    have nd := (clashes_nodup p).filter (fun t => within t r)
    generalize (clashesOf p).filter (fun t => within t r) = l at h1 h2 nd
    match l, h1, h2, nd with
    | [a], h1, _, _ => rw [h1 a List.mem_cons_self]
    | a :: b :: l, h1, _, nd =>
      have e1 := h1 a List.mem_cons_self
      have e2 := h1 b (List.mem_cons_of_mem _ List.mem_cons_self)
      rw [e1, e2] at nd
      simp at nd
  rw [e]
  rfl
/-- clashes of three and more have no reason of rest -/
theorem clash_norest {p : Plan} (hp : p.Ok) {r : List Int} (hr : r ∈ clashesOf p) (h3 : 2 < r.length) (a b : Int) : Reason.rest a b ∉ against p r := by
  intro h
  obtain ⟨h1, h2⟩ := mem_clashes.mp hr
  rw [mem_rest] at h
  obtain ⟨ha, hb, hp1, hn⟩ := h
  have hab : a < b := by
    unfold aPair at hp1
    rw [Bool.and_eq_true, decide_eq_true_iff] at hp1
    exact hp1.1
  have hs : SomeOk p [a, b] := by
    refine ⟨fun x hx => ?_, fun x hx => ?_, ?_⟩
    · rcases List.mem_cons.mp hx with e | e
      · rw [e]; exact h1.lo a ha
      · rw [List.mem_singleton.mp e]; exact h1.lo b hb
    · rcases List.mem_cons.mp hx with e | e
      · rw [e]; exact h1.hi a ha
      · rw [List.mem_singleton.mp e]; exact h1.hi b hb
    · simp [asc, hab]
  have hsub : [a, b].Sublist r := sub_of_mem hs.as h1.as fun x hx => by
    rcases List.mem_cons.mp hx with e | e
    · rw [e]; exact ha
    · rw [List.mem_singleton.mp e]; exact hb
  have hg := clash_part hp h1 h2 hsub fun e => by rw [← e] at h3; simp at h3
  rw [good_iff] at hg
  exact hg (.rest a b) (mem_rest.mpr ⟨List.mem_cons_self, List.mem_cons_of_mem _ List.mem_cons_self, hp1, hn⟩)
/-! what to refuse -/
theorem mem_others {p : Plan} {s : List Int} {x : Int} : x ∈ others p s ↔ (0 ≤ x ∧ x < p.wishes.length) ∧ x ∉ s := by
  unfold others
  rw [List.mem_filter, rangeD_mem, decide_eq_true_iff]
  constructor
  · rintro ⟨⟨h1, h2⟩, h3⟩; exact ⟨⟨h1, by omega⟩, h3⟩
  · rintro ⟨⟨h1, h2⟩, h3⟩; exact ⟨⟨h1, by omega⟩, h3⟩
theorem others_some (p : Plan) (s : List Int) : SomeOk p (others p s) := ⟨fun x hx => (mem_others.mp hx).1.1, fun x hx => (mem_others.mp hx).1.2, asc_sub List.filter_sublist (asc_range _ _)⟩
theorem others_others {p : Plan} {s : List Int} (hs : SomeOk p s) : others p (others p s) = s := asc_ext (others_some p _).as hs.as fun x => by
  rw [mem_others, mem_others]
  constructor
  · rintro ⟨h1, h2⟩
    exact Classical.byContradiction fun c => h2 ⟨h1, c⟩
  · intro h
    exact ⟨⟨hs.lo x h, hs.hi x h⟩, fun c => c.2 h⟩
theorem filter_split {α : Type} (q : α → Bool) : ∀ l : List α, (l.filter q).length + (l.filter fun x => !q x).length = l.length
  | [] => rfl
  | a :: l => by
    have ih := filter_split q l
    cases c : q a
    · rw [List.filter_cons_of_neg (by simp [c]), List.filter_cons_of_pos (by simp [c])]
      simp only [List.length_cons]; omega
    · rw [List.filter_cons_of_pos c, List.filter_cons_of_neg (by simp [c])]
      simp only [List.length_cons]; omega
theorem others_len {p : Plan} {s : List Int} (hs : SomeOk p s) : (others p s).length + s.length = p.wishes.length := by
  have e : s = (rangeD 0 p.wishes.length).filter fun x => !decide (x ∉ s) := asc_ext hs.as (asc_sub List.filter_sublist (asc_range _ _)) fun x => by
    rw [List.mem_filter, rangeD_mem]
    simp only [decide_not, Bool.not_not, decide_eq_true_eq]
    exact ⟨fun h => ⟨⟨hs.lo x h, by have := hs.hi x h; omega⟩, h⟩, fun h => h.2⟩
  have h := filter_split (fun x => decide (x ∉ s)) (rangeD 0 p.wishes.length)
  rw [rangeD_len, ← e] at h
  exact h
theorem refuse_is {p : Plan} (hp : p.Ok) : ∃ g ∈ largest p, toRefuse p = others p g := by
  unfold toRefuse
  cases q : headMin (fun a b : List Int => decide (a < b)) ((largest p).map (others p)) with
  | none =>
    rw [headMin_none] at q
    exact absurd (List.map_eq_nil_iff.mp q) (largest_ne hp)
  | some a =>
    obtain ⟨g, hg, e⟩ := List.mem_map.mp (headMin_some q)
    exact ⟨g, hg, e.symm⟩
theorem refuse_good {p : Plan} (hp : p.Ok) : others p (toRefuse p) ∈ largest p := by
  obtain ⟨g, hg, e⟩ := refuse_is hp
  rw [e, others_others (mem_largest.mp hg).1.1]
  exact hg
/-- it meets every clash -/
theorem refuse_meets {p : Plan} (hp : p.Ok) {r : List Int} (hr : r ∈ clashesOf p) : ∃ x ∈ r, x ∈ toRefuse p := by
  refine Classical.byContradiction fun c => ?_
  obtain ⟨h1, h2⟩ := mem_clashes.mp hr
  have hg := mem_largest.mp (refuse_good hp)
  have hs : r.Sublist (others p (toRefuse p)) := sub_of_mem h1.as hg.1.1.as fun x hx => mem_others.mpr ⟨⟨h1.lo x hx, h1.hi x hx⟩, fun hm => c ⟨x, hx, hm⟩⟩
  have := good_sub hp hg.1.1 hs hg.1.2
  rw [(isClash_iff.mp h2).1] at this
  cases this
/-- but not with fewer -/
theorem refuse_less {p : Plan} (hp : p.Ok) {i : Nat} (hi : i < (toRefuse p).length) : ∃ r ∈ clashesOf p, ∀ x ∈ r, x ∉ less (toRefuse p) i := by
  obtain ⟨g, hg, e⟩ := refuse_is hp
  have hg' := mem_largest.mp hg
  have ho : SomeOk p (toRefuse p) := by rw [e]; exact others_some p g
  have hl := ho.sub (less_sub (toRefuse p) i)
  have hb : good p (others p (less (toRefuse p) i)) = false := by
    cases c : good p (others p (less (toRefuse p) i)) with
    | false => rfl
    | true =>
      have h1 := le_most (others_some p _) c
      have h2 := others_len hl
      have h3 := less_len hi
      have h4 := others_len hg'.1.1
      rw [← e] at h4
      have h5 := hg'.2
      omega
  obtain ⟨t, h1, h2⟩ := clash_ex hp _ _ (Nat.le_refl _) (others_some p _) hb
  exact ⟨t, mem_clashes.mpr ⟨(others_some p _).sub h1, h2⟩, fun x hx => (mem_others.mp (h1.subset hx)).2⟩
/-! clashes apart -/
theorem apart_le : ∀ (n : Nat) (l : List (List Int)) (out : List Int), l.length ≤ n → (∀ r ∈ l, ∃ x ∈ r, x ∈ out) → mostApart l ≤ out.length
  | _, [], out, _, _ => by rw [mostApart_nil]; exact Nat.zero_le _
  | 0, a :: l, out, h, _ => by simp at h
  | n + 1, a :: l, out, h, k => by
    have hn : l.length ≤ n := by simpa using h
    rw [mostApart_cons]
    have h1 := apart_le n l out hn fun r hr => k r (List.mem_cons_of_mem _ hr)
    obtain ⟨x, hx, ho⟩ := k a List.mem_cons_self
    have h2 := apart_le n (free a l) (out.erase x) (Nat.le_trans (List.length_filter_le ..) hn) fun r hr => by
      obtain ⟨hm, hf⟩ := List.mem_filter.mp hr
      obtain ⟨y, hy, hyo⟩ := k r (List.mem_cons_of_mem _ hm)
      refine ⟨y, hy, (List.mem_erase_of_ne fun e => ?_).mpr hyo⟩
      subst e
      rw [Bool.not_eq_true', ← Bool.not_eq_true] at hf
      exact hf (List.any_eq_true.mpr ⟨y, hy, decide_eq_true hx⟩)
    have h3 : (out.erase x).length = out.length - 1 := List.length_erase_of_mem ho
    have h4 : 0 < out.length := List.length_pos_of_mem ho
    omega
theorem apart_refuse {p : Plan} (hp : p.Ok) : mostApart (clashesOf p) ≤ (toRefuse p).length := apart_le _ _ _ (Nat.le_refl _) fun r hr => refuse_meets hp hr
theorem apart_zero (l : List (List Int)) : mostApart l = 0 ↔ l = [] := by
  cases l with
  | nil => exact ⟨fun _ => rfl, fun _ => rfl⟩
  | cons a l =>
    rw [mostApart_cons]
    constructor
    · intro h; omega
    · intro h; cases h
theorem best_at {p : Plan} (hp : p.Ok) : atI ((largest p).map eT) 0 = some (eT (best p)) := by
  unfold best
  cases q : largest p with
  | nil => exact absurd q (largest_ne hp)
  | cons a l => exact atI_nat (j := 0) rfl
theorem best_mem {p : Plan} (hp : p.Ok) : best p ∈ largest p := by
  unfold best
  cases q : largest p with
  | nil => exact absurd q (largest_ne hp)
  | cons a l => exact List.mem_cons_self
theorem best_len {p : Plan} (hp : p.Ok) : (best p).length = mostGranted p := (mem_largest.mp (best_mem hp)).2
def c_law_least : Ct := ⟨Plan, fun p => [eP p, .tuple ((clashesOf p).map eT), eT (toRefuse p)], fun p => p.Ok, fun _ => Eq (.bool true)⟩
def kindS : Reason → Str
  | .light _ => "light"
  | .rest _ _ => "rest"
  | .value _ _ => "value"
def eRl : Reason → List PyData
  | .light i => [.str "light", .int i]
  | .rest a b => [.str "rest", .int a, .int b]
  | .value h k => [.str "value", .int h, .int k]
theorem eR_l (r : Reason) : eR r = .tuple (eRl r) := by cases r <;> rfl
theorem eRl_0 (r : Reason) : atI (eRl r) 0 = some (.str (kindS r)) := by cases r <;> exact atI_nat (j := 0) rfl
theorem shp_kind (r : Reason) : Shp 0 (.str (kindS r)) := by cases r <;> first | exact shp_light | exact shp_rest | exact shp_value
def isRest : Reason → Bool
  | .rest _ _ => true
  | _ => false
def isLight : Reason → Bool
  | .light _ => true
  | _ => false
def isValue : Reason → Bool
  | .value _ _ => true
  | _ => false
theorem eqv_rest (r : Reason) : PyData.eqv (.str (kindS r)) (.str "rest") = isRest r := by cases r <;> simp only [kindS, PyData.eqv, isRest, sne1, sne2, sne3, sne4, sne5, sne6, beq_self_eq_true]
theorem eqv_light (r : Reason) : PyData.eqv (.str (kindS r)) (.str "light") = isLight r := by cases r <;> simp only [kindS, PyData.eqv, isLight, sne1, sne2, sne3, sne4, sne5, sne6, beq_self_eq_true]
theorem eqv_value (r : Reason) : PyData.eqv (.str (kindS r)) (.str "value") = isValue r := by cases r <;> simp only [kindS, PyData.eqv, isValue, sne1, sne2, sne3, sne4, sne5, sne6, beq_self_eq_true]
theorem none_opt {α : Type} {e : α → PyData} (h : ∀ a, isNoneD (e a) = false) (o : Option α) : o.isNone = isNoneD (eOpt e o) := by cases o with
  | none => rfl
  | some a => exact (h a).symm
theorem en_optT : En (eOpt eT) 1 := en_opt en_T fun a => by simp [PyData.eqv]
theorem leastB (p : Plan) (hp : p.Ok) : ∀ (rows : List (List Int)) (out : List Int), rows = clashesOf p → out = toRefuse p → (rows.all fun r => r.any fun x => decide (x ∈ out)) = true := by
  rintro _ _ rfl rfl
  rw [List.all_eq_true]
  intro r hr
  obtain ⟨x, h1, h2⟩ := refuse_meets hp hr
  exact List.any_eq_true.mpr ⟨x, h1, decide_eq_true h2⟩
end Mus

namespace Mus
open PySem PySem.Spec PyProof.Rows L2 PL
/-! ## two plans with the same wishes -/
structure Two (p q : Plan) : Prop where
  okp : p.Ok
  okq : q.Ok
  ws : q.wishes = p.wishes
theorem Two.symm {p q : Plan} (h : Two p q) : Two q p := ⟨h.okq, h.okp, h.ws.symm⟩
theorem Two.some {p q : Plan} (h : Two p q) {s : List Int} (hs : SomeOk p s) : SomeOk q s := ⟨hs.lo, fun x hx => by rw [h.ws]; exact hs.hi x hx, hs.as⟩
def partRows (p q : Plan) : List (List Int) := (subs p.wishes.length).filter fun r => good p r != good q r
def parting (p q : Plan) : Option (List Int) := headMin lenLt (partRows p q)
def stricter (p q : Plan) : Bool := (goodOnes p).all fun r => decide (r ∈ goodOnes q)
theorem lenLt_iff {a b : List Int} : lenLt a b = true ↔ a.length < b.length ∨ (a.length = b.length ∧ a < b) := by
  unfold lenLt
  split
  · rename_i h
    rw [decide_eq_true_iff]
    constructor
    · intro k; exact Or.inr ⟨h, k⟩
    · rintro (k | k)
      · omega
      · exact k.2
  · rename_i h
    rw [decide_eq_true_iff]
    constructor
    · intro k; exact Or.inl k
    · rintro (k | k)
      · exact k
      · exact absurd k.1 h
theorem lenLt_no {a b : List Int} : lenLt a b = false ↔ b.length < a.length ∨ (b.length = a.length ∧ ¬ a < b) := by
  rw [← Bool.not_eq_true, lenLt_iff]
  constructor
  · intro h
    by_cases c : b.length < a.length
    · exact Or.inl c
    · refine Or.inr ⟨?_, fun k => h (Or.inr ⟨?_, k⟩)⟩
      · have : ¬ a.length < b.length := fun k => h (Or.inl k)
        omega
      · have : ¬ a.length < b.length := fun k => h (Or.inl k)
        omega
  · rintro (h | ⟨h, k⟩) (g | ⟨g, f⟩)
    · omega
    · omega
    · omega
    · exact k f
theorem lenLt_trans (a b c : List Int) (h1 : lenLt a b = false) (h2 : lenLt b c = false) : lenLt a c = false := by
  rw [lenLt_no] at h1 h2 ⊢
  rcases h1 with h1 | ⟨h1, k1⟩
  · rcases h2 with h2 | ⟨h2, k2⟩
    · left; omega
    · left; omega
  · rcases h2 with h2 | ⟨h2, k2⟩
    · left; omega
    · right
      refine ⟨by omega, ?_⟩
      rw [List.not_lt] at k1 k2 ⊢
      exact List.le_trans k2 k1
theorem lenLt_asym (a b : List Int) (h : lenLt a b = true) : lenLt b a = false := by
  rw [lenLt_iff] at h
  rw [lenLt_no]
  rcases h with h | ⟨h, k⟩
  · exact Or.inl h
  · refine Or.inr ⟨h, ?_⟩
    rw [List.not_lt]
    exact List.le_of_lt k
theorem lenLt_irr (a : List Int) : lenLt a a = false := by
  rw [lenLt_no]
  exact Or.inr ⟨rfl, List.lt_irrefl a⟩
theorem minF_le {α : Type} {lt : α → α → Bool} (tr : ∀ a b c, lt a b = false → lt b c = false → lt a c = false) (as : ∀ a b, lt a b = true → lt b a = false) (ir : ∀ a, lt a a = false) : ∀ (l : List α) (a : α), ∀ y ∈ a :: l, lt y (minF lt a l) = false
  | [], a, y, hy => by rw [List.mem_singleton.mp hy]; exact ir a
  | b :: l, a, y, hy => by
    have ih := minF_le tr as ir l (if lt b a then b else a)
    have e : minF lt a (b :: l) = minF lt (if lt b a then b else a) l := rfl
    rw [e]
    have h0 := ih _ List.mem_cons_self
    rcases List.mem_cons.mp hy with q | q
    · subst q
      by_cases c : lt b y = true
      · rw [if_pos c] at h0 ⊢; exact tr _ _ _ (as _ _ c) h0
      · rw [if_neg c] at h0 ⊢; exact h0
    · rcases List.mem_cons.mp q with q | q
      · subst q
        by_cases c : lt y a = true
        · rw [if_pos c] at h0 ⊢; exact h0
        · rw [if_neg c] at h0 ⊢; exact tr _ _ _ (by simpa using c) h0
      · exact ih y (List.mem_cons_of_mem _ q)
theorem headMin_le {α : Type} {lt : α → α → Bool} (tr : ∀ a b c, lt a b = false → lt b c = false → lt a c = false) (as : ∀ a b, lt a b = true → lt b a = false) (ir : ∀ a, lt a a = false) {l : List α} {m : α} (h : headMin lt l = some m) : ∀ y ∈ l, lt y m = false := by
  cases l with
  | nil => cases h
  | cons a l => rw [← Option.some.inj h]; exact minF_le tr as ir l a
def alike2 (p q : Plan) : Prop := ∀ s, SomeOk p s → good p s = good q s
theorem clash_congr {p q : Plan} (h : Two p q) (a : alike2 p q) {s : List Int} (hs : SomeOk p s) : isClash p s = isClash q s := by
  unfold isClash
  rw [a s hs]
  congr 1
  rw [Bool.eq_iff_iff, List.all_eq_true, List.all_eq_true]
  exact forall_congr' fun i => by rw [a _ (hs.sub (less_sub s i))]
theorem clashes_congr {p q : Plan} (h : Two p q) (a : alike2 p q) : clashesOf p = clashesOf q := by
  unfold clashesOf
  rw [h.ws]
  exact congrArg sortR (List.filter_congr fun s hs => clash_congr h a (subs_some.mp hs))
theorem same_iff {p q : Plan} (h : Two p q) : clashesOf p = clashesOf q ↔ alike2 p q := by
  refine ⟨fun e s hs => ?_, clashes_congr h⟩
  have key : ∀ {p q : Plan}, Two p q → clashesOf p = clashesOf q → ∀ s, SomeOk p s → good p s = false → good q s = false := fun {p q} h e s hs hg => by
    obtain ⟨t, h1, h2⟩ := clash_ex h.okp _ s (Nat.le_refl _) hs hg
    have hm : t ∈ clashesOf q := by rw [← e]; exact mem_clashes.mpr ⟨hs.sub h1, h2⟩
    have hq := mem_clashes.mp hm
    cases c : good q s with
    | false => rfl
    | true =>
      have := good_sub h.okq (h.some hs) h1 c
      rw [(isClash_iff.mp hq.2).1] at this
      cases this
  cases c : good p s with
  | false => exact (key h e s hs c).symm
  | true =>
    cases d : good q s with
    | true => rfl
    | false =>
      have := key h.symm e.symm s (h.some hs) d
      rw [c] at this
      cases this
theorem mem_part {p q : Plan} {s : List Int} : s ∈ partRows p q ↔ SomeOk p s ∧ good p s ≠ good q s := by
  unfold partRows
  rw [List.mem_filter, subs_some]
  exact and_congr Iff.rfl bne_iff_ne
theorem part_none {p q : Plan} : (parting p q).isNone = true ↔ alike2 p q := by
  rw [Option.isNone_iff_eq_none]
  unfold parting
  rw [headMin_none, List.eq_nil_iff_forall_not_mem]
  constructor
  · intro k s hs
    exact Classical.byContradiction fun c => k s (mem_part.mpr ⟨hs, c⟩)
  · intro k s hm
    obtain ⟨h1, h2⟩ := mem_part.mp hm
    exact h2 (k s h1)
theorem part_symm {p q : Plan} (h : Two p q) : parting q p = parting p q := by
  unfold parting partRows
  rw [h.ws]
  exact congrArg _ (List.filter_congr fun s _ => by rw [Bool.eq_iff_iff, bne_iff_ne, bne_iff_ne]; exact ne_comm)
theorem part_less {p q : Plan} {r : List Int} (h : parting p q = some r) {i : Nat} (hi : i < r.length) : good p (less r i) = good q (less r i) := by
  obtain ⟨h1, h2⟩ := mem_part.mp (headMin_some h)
  refine Classical.byContradiction fun c => ?_
  have := headMin_le lenLt_trans lenLt_asym lenLt_irr h (less r i) (mem_part.mpr ⟨h1.sub (less_sub r i), c⟩)
  rw [lenLt_no] at this
  have := less_len hi
  omega
theorem stricter_iff {p q : Plan} (h : Two p q) : stricter p q = true ↔ ∀ s, SomeOk p s → good p s = true → good q s = true := by
  unfold stricter
  rw [List.all_eq_true]
  constructor
  · intro k s hs hg
    exact (mem_good.mp (of_decide_eq_true (k s (mem_good.mpr ⟨hs, hg⟩)))).2
  · intro k s hm
    obtain ⟨h1, h2⟩ := mem_good.mp hm
    exact decide_eq_true (mem_good.mpr ⟨h.some h1, k s h1 h2⟩)
theorem same_strict {p q : Plan} (h : Two p q) : (stricter p q && stricter q p) = decide (clashesOf p = clashesOf q) := by
  rw [Bool.eq_iff_iff, Bool.and_eq_true, decide_eq_true_iff, same_iff h, stricter_iff h, stricter_iff h.symm]
  constructor
  · rintro ⟨k1, k2⟩ s hs
    rw [Bool.eq_iff_iff]
    exact ⟨k1 s hs, k2 s (h.some hs)⟩
  · intro k
    exact ⟨fun s hs hg => by rw [← k s hs]; exact hg, fun s hs hg => by rw [k s (h.symm.some hs)]; exact hg⟩
theorem most_strict {p q : Plan} (h : Two p q) (k : stricter p q = true) : mostGranted p ≤ mostGranted q := by
  have hb := mem_largest.mp (best_mem h.okp)
  have := le_most (h.some hb.1.1) ((stricter_iff h).mp k _ hb.1.1 hb.1.2)
  rw [best_len h.okp] at this
  exact this
theorem Two.refl {p : Plan} (h : p.Ok) : Two p p := ⟨h, h, rfl⟩
theorem two_lim {p : Plan} (h : p.Ok) {ls : List Int} (hl : ls.length = p.houses.length) (hb : ∀ x ∈ ls, 0 ≤ x ∧ x ≤ 40) : Two p ⟨ls, p.objects, p.wishes⟩ := by
  refine ⟨h, ⟨by show 1 ≤ ls.length; rw [hl]; exact h.h1, by show ls.length ≤ 4; rw [hl]; exact h.h4, hb, h.o1, h.o4, fun o ho => ?_, h.w8, fun w hw => ?_⟩, rfl⟩
  · show o.Ok ls.length
    rw [hl]; exact h.os o ho
  · obtain ⟨a, b, c, d, e, f, g, i⟩ := h.ws w hw
    exact ⟨a, by show w.house < (ls.length : Nat); rw [hl]; exact b, c, d, e, f, g, i⟩
theorem two_obj {p : Plan} (h : p.Ok) {os : List Obj} (hm : os.map Obj.home = p.objects.map Obj.home) (hb : ∀ o ∈ os, o.Ok p.houses.length) : Two p ⟨p.houses, os, p.wishes⟩ := by
  have hl : os.length = p.objects.length := by have := congrArg List.length hm; simpa using this
  refine ⟨h, ⟨h.h1, h.h4, h.hs, by show 1 ≤ os.length; rw [hl]; exact h.o1, by show os.length ≤ 4; rw [hl]; exact h.o4, hb, h.w8, fun w hw => ?_⟩, rfl⟩
  obtain ⟨a, b, c, d, e, f, g, i⟩ := h.ws w hw
  refine ⟨a, b, c, by show w.item < (os.length : Nat); rw [hl]; exact d, ?_, f, g, i⟩
  have e1 : ((⟨p.houses, os, p.wishes⟩ : Plan).obj w.item).home = (p.obj w.item).home := by
    unfold Plan.obj
    have h1 := getD_map Obj.home os w.item.toNat ⟨0, 0, 0, 0⟩ 0 (by omega)
    have h2 := getD_map Obj.home p.objects w.item.toNat ⟨0, 0, 0, 0⟩ 0 (by omega)
    rw [← h1, ← h2, hm]
  rw [e1]; exact e
def wider (p : Plan) : Plan := ⟨p.houses.map fun x => x + 3, p.objects, p.wishes⟩
theorem wider_two {p : Plan} (h : p.Ok) (hd : p.Dr) : Two p (wider p) := two_lim h (by simp) fun x hx => by
  obtain ⟨y, hy, rfl⟩ := List.mem_map.mp hx
  have := hd.hs y hy
  omega
theorem wider_strict {p : Plan} (h : p.Ok) (hd : p.Dr) : stricter p (wider p) = true := by
  rw [stricter_iff (wider_two h hd)]
  intro s hs hg
  refine good_mono (q := wider p) h ⟨rfl, by simp [wider], rfl, fun x h0 h1 => ?_, fun _ _ _ => ⟨Int.le_refl _, Int.le_refl _, rfl⟩⟩ hs.rng (List.Sublist.refl _) hg
  have e : (wider p).lim x = p.lim x + 3 := by
    unfold Plan.lim wider
    exact getD_map _ _ _ _ _ (by omega)
  rw [e]; omega
def c_check_two : Ct := ⟨Plan × Plan, fun a => [eP a.1, eP a.2], fun a => Two a.1 a.2, fun _ => Eq .none⟩
def c_allow_same : Ct := ⟨Plan × Plan, fun a => [eP a.1, eP a.2], fun a => Two a.1 a.2, fun a => Eq (.bool (decide (clashesOf a.1 = clashesOf a.2)))⟩
def c_parting_wishes : Ct := ⟨Plan × Plan, fun a => [eP a.1, eP a.2], fun a => Two a.1 a.2, fun a => Eq (eOpt eT (parting a.1 a.2))⟩
def c_is_stricter : Ct := ⟨Plan × Plan, fun a => [eP a.1, eP a.2], fun a => Two a.1 a.2, fun a => Eq (.bool (stricter a.1 a.2))⟩
def c_law_told : Ct := ⟨Plan × Plan × List Int, fun a => [eP a.1, eP a.2.1, eT a.2.2], fun a => Two a.1 a.2.1 ∧ SomeOk a.1 a.2.2, fun _ => Eq (.bool true)⟩
end Mus

namespace Mus
open PySem PySem.Spec PyProof.Rows L2 PL
/-! ## good wishes, as a list of wishes -/
theorem areGood_cong {p q : Plan} (h : q.houses = p.houses) (o : q.objects = p.objects) (ws : List Wish) : areGood q ws = areGood p ws := by
  obtain ⟨a, b, c⟩ := p
  obtain ⟨a', b', c'⟩ := q
  simp only at h o
  subst h; subst o
  rfl
theorem doRest_symm (a b : Wish) (r : Int) : doRest a b r = doRest b a r := by
  unfold doRest
  rw [Bool.or_comm]
theorem tiredB_symm (p : Plan) (a b : Wish) : tiredB p a b = tiredB p b a := by
  unfold tiredB
  by_cases h : a.item = b.item
  · rw [h, doRest_symm]
  · rw [decide_eq_false h, decide_eq_false (fun e => h e.symm)]
    rfl
theorem tired_nil {p : Plan} {ws : List Wish} : (tired p ws).isEmpty = true ↔ ws.Pairwise fun a b => tiredB p a b = false := by
  rw [List.isEmpty_iff, List.eq_nil_iff_forall_not_mem, List.pairwise_iff_getElem]
  constructor
  · intro h i j hi hj hij
    refine Classical.byContradiction fun c => ?_
    refine h ((i : Int), (j : Int)) ?_
    unfold tired
    rw [List.mem_flatMap]
    refine ⟨(ws[i], i), ?_, ?_⟩
    · rw [List.mem_zipIdx_iff_getElem?]
      exact List.getElem?_eq_getElem hi
    · rw [List.mem_map]
      refine ⟨(j : Int), ?_, rfl⟩
      unfold tiredRow
      rw [List.mem_filter, rangeD_mem]
      refine ⟨⟨by show (i : Int) + 1 ≤ j; omega, by show (j : Int) < (i : Int) + 1 + (((ws.length : Int) - ((i : Int) + 1)).toNat : Nat); omega⟩, ?_⟩
      rw [wAt_nat (List.getElem?_eq_getElem hj)]
      simpa using c
  · intro h x hx
    obtain ⟨h1, h2, h3, h4⟩ := tired_mem hx
    obtain ⟨i, hi⟩ : ∃ i : Nat, x.1 = i := ⟨x.1.toNat, by omega⟩
    obtain ⟨j, hj⟩ : ∃ j : Nat, x.2 = j := ⟨x.2.toNat, by omega⟩
    rw [hi, hj] at h4
    have l1 : i < ws.length := by omega
    have l2 : j < ws.length := by omega
    rw [wAt_nat (List.getElem?_eq_getElem l1), wAt_nat (List.getElem?_eq_getElem l2)] at h4
    rw [h i j l1 l2 (by omega)] at h4
    cases h4
theorem bleached_nil {p : Plan} {ws : List Wish} : (bleached p ws).isEmpty = true ↔ ∀ i : Int, 0 ≤ i → i < p.objects.length → weeksOf ws i ≤ (p.obj i).light := by
  unfold bleached
  rw [List.isEmpty_iff, List.filter_eq_nil_iff]
  constructor
  · intro h i h0 h1
    have := h i (rangeD_mem.mpr (by omega))
    rw [decide_eq_true_iff] at this
    omega
  · intro h i hi
    have := rangeD_mem.mp hi
    have := h i this.1 (by omega)
    rw [decide_eq_true_iff]
    omega
theorem crowded_nil {p : Plan} {ws : List Wish} : (crowded p ws).isEmpty = true ↔ ∀ h k : Int, 0 ≤ h → h < p.houses.length → 0 ≤ k → k ≤ 60 → valueAt p ws h k ≤ p.lim h := by
  unfold crowded
  rw [flatMap_nil', List.all_eq_true]
  constructor
  · intro g h k h0 h1 k0 k1
    have hl : h.toNat < p.houses.length := by omega
    have := g (p.houses[h.toNat], h.toNat) (by rw [List.mem_zipIdx_iff_getElem?]; exact List.getElem?_eq_getElem hl)
    rw [List.isEmpty_map, List.isEmpty_iff] at this
    unfold crowdRow at this
    rw [List.filter_eq_nil_iff] at this
    have := this k (rangeD_mem.mpr (by omega))
    rw [decide_eq_true_iff] at this
    have e1 : ((h.toNat : Nat) : Int) = h := by omega
    have e2 : p.lim h = p.houses[h.toNat] := by
      unfold Plan.lim
      rw [List.getD, List.getElem?_eq_getElem hl]; rfl
    rw [e1] at this
    omega
  · intro g x hx
    obtain ⟨i, hi⟩ := List.getElem?_of_mem hx
    obtain ⟨h1, h2⟩ := zipIdx_get hi
    have hl := (List.getElem?_eq_some_iff.mp h1).1
    rw [List.isEmpty_map, List.isEmpty_iff]
    unfold crowdRow
    rw [List.filter_eq_nil_iff]
    intro k hk
    have hk' := rangeD_mem.mp hk
    have := g (x.2 : Int) k (by omega) (by omega) (by omega) (by omega)
    have e2 : p.lim (x.2 : Int) = x.1 := by
      unfold Plan.lim
      rw [h2, Int.toNat_natCast, List.getD, h1]; rfl
    rw [decide_eq_true_iff]
    omega
structure Fine (p : Plan) (ws : List Wish) : Prop where
  rest : ws.Pairwise fun a b => tiredB p a b = false
  light : ∀ i : Int, 0 ≤ i → i < p.objects.length → weeksOf ws i ≤ (p.obj i).light
  value : ∀ h k : Int, 0 ≤ h → h < p.houses.length → 0 ≤ k → k ≤ 60 → valueAt p ws h k ≤ p.lim h
theorem areGood_iff {p : Plan} {ws : List Wish} (hp : p.Ok) (hw : GoodWs p ws) : areGood p ws = true ↔ Fine p ws := by
  unfold areGood
  rw [good_crowded hp hw, Bool.and_eq_true, Bool.not_eq_true', Bool.or_eq_false_iff, Bool.not_eq_false', Bool.not_eq_false', tired_nil, bleached_nil, crowded_nil]
  exact ⟨fun ⟨⟨a, b⟩, c⟩ => ⟨a, b, c⟩, fun ⟨a, b, c⟩ => ⟨⟨a, b⟩, c⟩⟩
theorem sum_perm {a b : List Int} (h : a.Perm b) : a.sum = b.sum := by
  induction h with
  | nil => rfl
  | cons x _ ih => rw [List.sum_cons, List.sum_cons, ih]
  | swap x y l => rw [List.sum_cons, List.sum_cons, List.sum_cons, List.sum_cons]; omega
  | trans _ _ ih1 ih2 => exact ih1.trans ih2
theorem weeksOf_perm {a b : List Wish} (h : a.Perm b) (i : Int) : weeksOf a i = weeksOf b i := sum_perm ((h.filter _).map _)
theorem valueAt_perm {p : Plan} {a b : List Wish} (h : a.Perm b) (x k : Int) : valueAt p a x k = valueAt p b x k := sum_perm ((h.filter _).map _)
theorem Fine.perm {p : Plan} {a b : List Wish} (h : a.Perm b) (f : Fine p a) : Fine p b :=
  ⟨(h.pairwise_iff fun {x y} e => by rw [tiredB_symm]; exact e).mp f.rest, fun i h0 h1 => by rw [← weeksOf_perm h]; exact f.light i h0 h1, fun x k a1 a2 a3 a4 => by rw [← valueAt_perm h]; exact f.value x k a1 a2 a3 a4⟩
theorem GoodWs.perm {p : Plan} {a b : List Wish} (h : a.Perm b) (g : GoodWs p a) : GoodWs p b := ⟨fun w hw => g.it w (h.mem_iff.mpr hw), fun w hw => g.wk w (h.mem_iff.mpr hw)⟩
theorem areGood_perm {p : Plan} {a b : List Wish} (hp : p.Ok) (g : GoodWs p a) (h : a.Perm b) : areGood p a = areGood p b := by
  rw [Bool.eq_iff_iff, areGood_iff hp g, areGood_iff hp (g.perm h)]
  exact ⟨Fine.perm h, Fine.perm h.symm⟩
theorem named_gw {p : Plan} {s : List Int} (hp : p.Ok) (h : InRng p s) : GoodWs p (named p s) := by
  refine ⟨fun w hw => ?_, fun w hw => ?_⟩
  all_goals
    obtain ⟨x, hx, rfl⟩ := List.mem_map.mp hw
    have := hp.ws _ (p.wish_mem (h x hx).1 (h x hx).2)
  · exact ⟨this.i0, this.i1⟩
  · exact ⟨this.f0, this.fl, this.l1⟩
/-! ## a plan without one of its wishes -/
def skip (w i : Int) : Int := if i < w then i else i + 1
def unskip (w x : Int) : Int := if x < w then x else x - 1
theorem skip_ne (w i : Int) : skip w i ≠ w := by unfold skip; split <;> omega
theorem skip_lt {w i j : Int} (h : i < j) : skip w i < skip w j := by unfold skip; split <;> split <;> omega
theorem skip_un {w x : Int} (h : x ≠ w) : skip w (unskip w x) = x := by
  unfold skip unskip
  by_cases c : x < w
  · rw [if_pos c, if_pos c]
  · rw [if_neg c, if_neg (by omega)]; omega
theorem unskip_lt {w x y : Int} (hx : x ≠ w) (hy : y ≠ w) (h : x < y) : unskip w x < unskip w y := by unfold unskip; split <;> split <;> omega
theorem skip_inj {w i j : Int} (h : skip w i = skip w j) : i = j := by unfold skip at h; split at h <;> split at h <;> omega
/-- q is p without the wish w -/
structure Wo (q p : Plan) (w : Int) : Prop where
  okq : q.Ok
  okp : p.Ok
  hh : q.houses = p.houses
  ho : q.objects = p.objects
  len : (q.wishes.length : Int) + 1 = p.wishes.length
  w0 : 0 ≤ w
  w1 : w < p.wishes.length
  ws : ∀ i : Int, 0 ≤ i → i < q.wishes.length → q.wish i = p.wish (skip w i)
theorem Wo.to {q p : Plan} {w : Int} (h : Wo q p w) {s : List Int} (hs : SomeOk q s) : SomeOk p (s.map (skip w)) ∧ w ∉ s.map (skip w) := by
  have hl := h.len
  refine ⟨⟨fun x hx => ?_, fun x hx => ?_, ?_⟩, fun hx => ?_⟩
  · obtain ⟨i, hi, rfl⟩ := List.mem_map.mp hx
    have := hs.lo i hi
    unfold skip; split <;> omega
  · obtain ⟨i, hi, rfl⟩ := List.mem_map.mp hx
    have := hs.hi i hi
    unfold skip; split <;> omega
  · rw [asc_iff, List.pairwise_map]
    exact ((asc_iff s).mp hs.as).imp fun h => skip_lt h
  · obtain ⟨i, _, e⟩ := List.mem_map.mp hx
    exact skip_ne w i e
theorem Wo.good {q p : Plan} {w : Int} (h : Wo q p w) {s : List Int} (hs : SomeOk q s) : good q s = Mus.good p (s.map (skip w)) := by
  rw [← good_eq h.okq hs, ← good_eq h.okp (h.to hs).1, areGood_cong h.hh h.ho]
  refine congrArg _ ?_
  unfold named
  rw [List.map_map]
  exact List.map_congr_left fun i hi => h.ws i (hs.lo i hi) (hs.hi i hi)
theorem Wo.back {q p : Plan} {w : Int} (h : Wo q p w) {t : List Int} (ht : SomeOk p t) (hw : w ∉ t) : SomeOk q (t.map (unskip w)) ∧ (t.map (unskip w)).map (skip w) = t := by
  have hl := h.len
  have hne : ∀ x ∈ t, x ≠ w := fun x hx e => hw (e ▸ hx)
  refine ⟨⟨fun x hx => ?_, fun x hx => ?_, ?_⟩, ?_⟩
  · obtain ⟨i, hi, rfl⟩ := List.mem_map.mp hx
    have := ht.lo i hi
    have := hne i hi
    have := h.w0
    unfold unskip; split <;> omega
  · obtain ⟨i, hi, rfl⟩ := List.mem_map.mp hx
    have := ht.hi i hi
    have := hne i hi
    have := h.w1
    unfold unskip; split <;> omega
  · rw [asc_iff, List.pairwise_map]
    exact ((asc_iff t).mp ht.as).imp_of_mem fun {a b} ha hb k => unskip_lt (hne a ha) (hne b hb) k
  · rw [List.map_map]
    refine (List.map_congr_left fun x hx => ?_).trans (List.map_id t)
    exact skip_un (hne x hx)
/-- rows of p that leave w out -/
theorem Wo.le {q p : Plan} {w : Int} (h : Wo q p w) {t : List Int} (ht : SomeOk p t) (hg : Mus.good p t = true) (hw : w ∉ t) : t.length ≤ mostGranted q := by
  obtain ⟨h1, h2⟩ := h.back ht hw
  have := le_most h1 (by rw [h.good h1, h2]; exact hg)
  rwa [List.length_map] at this
theorem Wo.ex {q p : Plan} {w : Int} (h : Wo q p w) : ∃ t, SomeOk p t ∧ Mus.good p t = true ∧ w ∉ t ∧ t.length = mostGranted q := by
  have hb := mem_largest.mp (best_mem h.okq)
  obtain ⟨h1, h2⟩ := h.to hb.1.1
  exact ⟨_, h1, by rw [← h.good hb.1.1]; exact hb.1.2, h2, by rw [List.length_map]; exact hb.2⟩
theorem perm_ext {α : Type} [DecidableEq α] : ∀ {l m : List α}, l.Nodup → m.Nodup → (∀ x, x ∈ l ↔ x ∈ m) → l.Perm m
  | [], m, _, _, h => by
    have : m = [] := List.eq_nil_iff_forall_not_mem.mpr fun x hx => by have := (h x).mpr hx; cases this
    rw [this]
  | a :: l, m, h1, h2, h => by
    obtain ⟨n1, n2⟩ := List.nodup_cons.mp h1
    have hm := (h a).mp List.mem_cons_self
    have p1 := List.perm_cons_erase hm
    refine (List.Perm.cons a (perm_ext n2 (h2.erase a) fun x => ?_)).trans p1.symm
    rw [h2.mem_erase_iff]
    constructor
    · intro hx
      exact ⟨fun e => n1 (e ▸ hx), (h x).mp (List.mem_cons_of_mem _ hx)⟩
    · rintro ⟨hx, hy⟩
      rcases List.mem_cons.mp ((h x).mpr hy) with e | e
      · exact absurd e hx
      · exact e
theorem largest_nodup (p : Plan) : (largest p).Nodup := (sortR_perm _).symm.nodup (((subs_nodup _).filter _).filter _)
/-- how many best rows, seen in p -/
theorem Wo.count {q p : Plan} {w : Int} (h : Wo q p w) : (largest q).length = ((goodOnes p).filter fun t => decide (w ∉ t) && decide (t.length = mostGranted q)).length := by
  have e : ((largest q).map (List.map (skip w))).Perm ((goodOnes p).filter fun t => decide (w ∉ t) && decide (t.length = mostGranted q)) := by
    refine perm_ext ?_ (((subs_nodup _).filter _).filter _) fun t => ?_
    · exact List.pairwise_map.mpr ((largest_nodup q).imp fun {a b} k e => k (List.map_inj_right (fun x y => skip_inj) |>.mp e))
    · rw [List.mem_map, List.mem_filter, mem_good, Bool.and_eq_true, decide_eq_true_iff, decide_eq_true_iff]
      constructor
      · rintro ⟨s, hs, rfl⟩
        obtain ⟨⟨h1, h2⟩, h3⟩ := mem_largest.mp hs
        obtain ⟨h4, h5⟩ := h.to h1
        exact ⟨⟨h4, by rw [← h.good h1]; exact h2⟩, h5, by rw [List.length_map]; exact h3⟩
      · rintro ⟨⟨h1, h2⟩, h3, h4⟩
        obtain ⟨h5, h6⟩ := h.back h1 h3
        exact ⟨_, mem_largest.mpr ⟨⟨h5, by rw [h.good h5, h6]; exact h2⟩, by rw [List.length_map]; exact h4⟩, h6⟩
  have := e.length_eq
  rwa [List.length_map] at this
end Mus

namespace Mus
open PySem PySem.Spec PyProof.Rows L2 PL
/-! ## roles -/
def isSure (p : Plan) (w : Int) : Bool := (largest p).all fun r => decide (w ∈ r)
def isAny (p : Plan) (w : Int) : Bool := (largest p).any fun r => decide (w ∈ r)
theorem any_of_sure {p : Plan} (hp : p.Ok) {w : Int} (h : isSure p w = true) : isAny p w = true := List.any_eq_true.mpr ⟨best p, best_mem hp, List.all_eq_true.mp h _ (best_mem hp)⟩
inductive Role where
  | sure
  | opn
  | lost
  deriving DecidableEq
def eRole : Role → Str
  | .sure => "sure"
  | .opn => "open"
  | .lost => "lost"
def roleR (p : Plan) (w : Int) : Role := if isSure p w then .sure else if isAny p w then .opn else .lost
theorem role_str (p : Plan) (w : Int) : roleOf p w = eRole (roleR p w) := by
  unfold roleOf roleR
  show (if isSure p w = true then _ else if isAny p w = true then _ else _) = _
  split
  · rfl
  · split <;> rfl
theorem rne1 : (("sure" : Str) == "open") = false := by decide +kernel
theorem rne2 : (("sure" : Str) == "lost") = false := by decide +kernel
theorem rne3 : (("open" : Str) == "sure") = false := by decide +kernel
theorem rne4 : (("open" : Str) == "lost") = false := by decide +kernel
theorem rne5 : (("lost" : Str) == "sure") = false := by decide +kernel
theorem rne6 : (("lost" : Str) == "open") = false := by decide +kernel
abbrev eRo (r : Role) : PyData := .str (eRole r)
theorem shp_ro (r : Role) : Shp 0 (eRo r) := by cases r <;> exact shp_str _ (by decide +kernel)
theorem en_ro : En eRo 0 := ⟨shp_ro, fun a b => by cases a <;> cases b <;> simp only [eRo, eRole, PyData.eqv, rne1, rne2, rne3, rne4, rne5, rne6, beq_self_eq_true] <;> rfl⟩
theorem role_sure {p : Plan} {w : Int} : roleR p w = .sure ↔ isSure p w = true := by
  unfold roleR
  split
  · rename_i h; simp [h]
  · rename_i h
    split <;> simp [h]
theorem role_lost {p : Plan} (hp : p.Ok) {w : Int} : roleR p w = .lost ↔ isAny p w = false := by
  unfold roleR
  split
  · rename_i h
    have := any_of_sure hp h
    simp [this]
  · split
    · rename_i h; simp [h]
    · rename_i h; simpa using h
theorem role_open {p : Plan} (hp : p.Ok) {w : Int} : roleR p w = .opn ↔ isSure p w = false ∧ isAny p w = true := by
  unfold roleR
  split
  · rename_i h; simp [h]
  · rename_i h
    split
    · rename_i h2; simp [h2]; simpa using h
    · rename_i h2; simp; intro _; simpa using h2
theorem sure_iff {p : Plan} {w : Int} : isSure p w = true ↔ ∀ r ∈ largest p, w ∈ r := by
  unfold isSure
  rw [List.all_eq_true]
  exact ⟨fun h r hr => of_decide_eq_true (h r hr), fun h r hr => decide_eq_true (h r hr)⟩
theorem any_iff {p : Plan} {w : Int} : isAny p w = true ↔ ∃ r ∈ largest p, w ∈ r := by
  unfold isAny
  rw [List.any_eq_true]
  exact ⟨fun ⟨r, h, k⟩ => ⟨r, h, of_decide_eq_true k⟩, fun ⟨r, h, k⟩ => ⟨r, h, decide_eq_true k⟩⟩
section
variable {q p : Plan} {w : Int}
theorem Wo.most_le (h : Wo q p w) : mostGranted q ≤ mostGranted p := by
  obtain ⟨t, h1, h2, _, h4⟩ := h.ex
  rw [← h4]; exact le_most h1 h2
theorem Wo.most_ge (h : Wo q p w) : mostGranted p ≤ mostGranted q + 1 := by
  have hb := mem_largest.mp (best_mem h.okp)
  have hs := hb.1.1.sub (List.filter_sublist (p := fun x => decide (x ≠ w)) (l := best p))
  have hg := good_sub h.okp hb.1.1 (List.filter_sublist (p := fun x => decide (x ≠ w)) (l := best p)) hb.1.2
  have h1 := h.le hs hg (by simp)
  have h2 : (best p).length ≤ ((best p).filter fun x => decide (x ≠ w)).length + 1 := by
    have nd := asc_nodup hb.1.1.as
    have e := filter_split (fun x => decide (x ≠ w)) (best p)
    have h3 : ((best p).filter fun x => !decide (x ≠ w)).length ≤ 1 := by
      have nd2 := nd.filter (fun x => !decide (x ≠ w))
      have hw : ∀ x ∈ (best p).filter (fun x => !decide (x ≠ w)), x = w := fun x hx => by simpa using (List.mem_filter.mp hx).2
      generalize (best p).filter (fun x => !decide (x ≠ w)) = l at nd2 hw
      match l, nd2, hw with
      | [], _, _ => exact Nat.zero_le _
      | [a], _, _ => exact Nat.le_refl _
      | a :: b :: l, nd2, hw =>
        rw [hw a List.mem_cons_self, hw b (List.mem_cons_of_mem _ List.mem_cons_self)] at nd2
        simp at nd2
    omega
  have h3 := hb.2
  omega
theorem Wo.sure (h : Wo q p w) : isSure p w = true ↔ mostGranted q + 1 = mostGranted p := by
  rw [sure_iff]
  constructor
  · intro k
    have h1 := h.most_le
    have h2 := h.most_ge
    by_cases c : mostGranted q = mostGranted p
    · obtain ⟨t, t1, t2, t3, t4⟩ := h.ex
      exact absurd (k t (mem_largest.mpr ⟨⟨t1, t2⟩, t4.trans c⟩)) t3
    · omega
  · intro e r hr
    obtain ⟨⟨h1, h2⟩, h3⟩ := mem_largest.mp hr
    refine Classical.byContradiction fun c => ?_
    have := h.le h1 h2 c
    omega
theorem Wo.not_sure (h : Wo q p w) (k : isSure p w = false) : mostGranted q = mostGranted p := by
  have h1 := h.most_le
  have h2 := h.most_ge
  have h3 := mt h.sure.mpr (by rw [k]; exact Bool.false_ne_true)
  omega
theorem Wo.count_ns (h : Wo q p w) (k : isSure p w = false) : (largest q).length = ((largest p).filter fun t => decide (w ∉ t)).length := by
  rw [h.count, h.not_sure k]
  unfold largest
  have e : ((sortR ((goodOnes p).filter fun r => decide (r.length = maxL (goodOnes p)))).filter fun t => decide (w ∉ t)).Perm (((goodOnes p).filter fun r => decide (r.length = maxL (goodOnes p))).filter fun t => decide (w ∉ t)) := (sortR_perm _).filter _
  rw [e.length_eq, List.filter_filter]
  rfl
theorem Wo.count_lost (h : Wo q p w) (k : isAny p w = false) : (largest q).length = (largest p).length := by
  have ns : isSure p w = false := by
    cases c : isSure p w with
    | false => rfl
    | true => rw [any_of_sure h.okp c] at k; cases k
  rw [h.count_ns ns, List.filter_eq_self.mpr fun t ht => ?_]
  rw [decide_eq_true_iff]
  intro hw
  have := any_iff.mpr ⟨t, ht, hw⟩
  rw [k] at this; cases this
theorem Wo.count_open (h : Wo q p w) (k : isSure p w = false) (k2 : isAny p w = true) : (largest q).length < (largest p).length := by
  rw [h.count_ns k]
  obtain ⟨t, ht, hw⟩ := any_iff.mp k2
  have e := filter_split (fun t => decide (w ∉ t)) (largest p)
  have : 0 < ((largest p).filter fun t => !decide (w ∉ t)).length := List.length_pos_of_mem (List.mem_filter.mpr ⟨ht, by simpa using hw⟩)
  omega
end
/-- one best row alone: no wish is open -/
theorem one_best {p : Plan} (hp : p.Ok) : (largest p).length = 1 ↔ ∀ w : Int, 0 ≤ w → w < p.wishes.length → roleR p w ≠ .opn := by
  constructor
  · intro h w _ _ ho
    obtain ⟨h1, h2⟩ := (role_open hp).mp ho
    obtain ⟨a, ha⟩ : ∃ a, largest p = [a] := by
      match largest p, h with
      | [a], _ => exact ⟨a, rfl⟩
    obtain ⟨r, hr, hw⟩ := any_iff.mp h2
    have : isSure p w = true := sure_iff.mpr fun s hs => by
      rw [ha] at hr hs
      rw [List.mem_singleton.mp hs, ← List.mem_singleton.mp hr]; exact hw
    rw [h1] at this; cases this
  · intro h
    match hl : largest p with
    | [] => exact absurd hl (largest_ne hp)
    | [a] => rfl
    | a :: b :: l =>
      exfalso
      have nd := largest_nodup p
      rw [hl] at nd
      have hab : a ≠ b := fun e => by subst e; simp at nd
      have ha := mem_largest.mp (show a ∈ largest p by rw [hl]; exact List.mem_cons_self)
      have hb := mem_largest.mp (show b ∈ largest p by rw [hl]; exact List.mem_cons_of_mem _ List.mem_cons_self)
      have ex : ∃ w ∈ a, w ∉ b := Classical.byContradiction fun c => by
        have hs := sub_of_mem ha.1.1.as hb.1.1.as fun x hx => Classical.byContradiction fun k => c ⟨x, hx, k⟩
        exact hab (hs.eq_of_length (ha.2.trans hb.2.symm))
      obtain ⟨w, h1, h2⟩ := ex
      refine h w (ha.1.1.lo w h1) (ha.1.1.hi w h1) ((role_open hp).mpr ⟨?_, any_iff.mpr ⟨a, by rw [hl]; exact List.mem_cons_self, h1⟩⟩)
      cases c : isSure p w with
      | false => rfl
      | true => exact absurd (sure_iff.mp c b (by rw [hl]; exact List.mem_cons_of_mem _ List.mem_cons_self)) h2
end Mus

namespace Mus
open PySem PySem.Spec PyProof.Rows L2 PL
/-! ## a wish more -/
def ins (p : Plan) (s : List Int) (x : Int) : List Int := (rangeD 0 p.wishes.length).filter fun y => decide (y ∈ s) || decide (y = x)
theorem mem_ins {p : Plan} {s : List Int} (hs : SomeOk p s) {x : Int} (h0 : 0 ≤ x) (h1 : x < p.wishes.length) {y : Int} : y ∈ ins p s x ↔ y ∈ s ∨ y = x := by
  unfold ins
  rw [List.mem_filter, rangeD_mem, Bool.or_eq_true, decide_eq_true_iff, decide_eq_true_iff]
  constructor
  · exact fun h => h.2
  · rintro (h | h)
    · exact ⟨⟨hs.lo y h, by have := hs.hi y h; omega⟩, Or.inl h⟩
    · exact ⟨⟨by omega, by omega⟩, Or.inr h⟩
theorem ins_some (p : Plan) (s : List Int) (x : Int) : SomeOk p (ins p s x) := ⟨fun y hy => (rangeD_mem.mp (List.mem_filter.mp hy).1).1, fun y hy => by have := (rangeD_mem.mp (List.mem_filter.mp hy).1).2; omega, asc_sub List.filter_sublist (asc_range _ _)⟩
theorem ins_perm {p : Plan} {s : List Int} (hs : SomeOk p s) {x : Int} (h0 : 0 ≤ x) (h1 : x < p.wishes.length) (hx : x ∉ s) : (s ++ [x]).Perm (ins p s x) := by
  refine perm_ext ?_ (asc_nodup (ins_some p s x).as) fun y => ?_
  · rw [List.nodup_append]
    exact ⟨asc_nodup hs.as, by simp, fun a ha b hb e => hx (by rw [← List.mem_singleton.mp hb, ← e]; exact ha)⟩
  · rw [mem_ins hs h0 h1, List.mem_append, List.mem_singleton]
theorem add_good {p : Plan} (hp : p.Ok) {s : List Int} (hs : SomeOk p s) {x : Int} (h0 : 0 ≤ x) (h1 : x < p.wishes.length) (hx : x ∉ s) : areGood p (named p (s ++ [x])) = good p (ins p s x) := by
  have hr : InRng p (s ++ [x]) := fun y hy => by
    rcases List.mem_append.mp hy with q | q
    · exact ⟨hs.lo y q, hs.hi y q⟩
    · rw [List.mem_singleton.mp q]; exact ⟨h0, h1⟩
  rw [areGood_perm hp (named_gw hp hr) ((ins_perm hs h0 h1 hx).map p.wish), ← good_eq hp (ins_some p s x)]
  rfl
theorem ins_len {p : Plan} {s : List Int} (hs : SomeOk p s) {x : Int} (h0 : 0 ≤ x) (h1 : x < p.wishes.length) (hx : x ∉ s) : (ins p s x).length = s.length + 1 := by
  have := (ins_perm hs h0 h1 hx).length_eq
  rw [List.length_append] at this
  exact this.symm
theorem mem_added {p : Plan} (hp : p.Ok) {s : List Int} (hs : SomeOk p s) {x : Int} : x ∈ added p s ↔ ((0 ≤ x ∧ x < p.wishes.length) ∧ x ∉ s) ∧ good p (ins p s x) = true := by
  unfold added
  rw [List.mem_filter, mem_others]
  constructor
  · rintro ⟨h1, h2⟩
    rw [add_good hp hs h1.1.1 h1.1.2 h1.2] at h2
    exact ⟨h1, h2⟩
  · rintro ⟨h1, h2⟩
    refine ⟨h1, ?_⟩
    rw [add_good hp hs h1.1.1 h1.1.2 h1.2]
    exact h2
theorem added_most {p : Plan} (hp : p.Ok) {s : List Int} (hs : SomeOk p s) (h : s.length = mostGranted p) : added p s = [] := by
  rw [List.eq_nil_iff_forall_not_mem]
  intro x hx
  obtain ⟨⟨⟨h0, h1⟩, h2⟩, h3⟩ := (mem_added hp hs).mp hx
  have := le_most (ins_some p s x) h3
  rw [ins_len hs h0 h1 h2] at this
  omega
theorem refuse_len {p : Plan} (hp : p.Ok) : (toRefuse p).length + mostGranted p = p.wishes.length := by
  obtain ⟨g, hg, e⟩ := refuse_is hp
  have hg' := mem_largest.mp hg
  have := others_len hg'.1.1
  rw [e]
  have := hg'.2
  omega
/-! the plan without one wish, as the law makes it -/
def without (p : Plan) (w : Nat) : Plan := ⟨p.houses, p.objects, p.wishes.take w ++ p.wishes.drop (w + 1)⟩
theorem without_wo {p : Plan} (hp : p.Ok) {w : Nat} (h : w < p.wishes.length) : Wo (without p w) p w := by
  have hl : (without p w).wishes.length + 1 = p.wishes.length := by
    show (p.wishes.take w ++ p.wishes.drop (w + 1)).length + 1 = _
    rw [List.length_append, List.length_take, List.length_drop]; omega
  have w8 := hp.w8
  refine ⟨⟨hp.h1, hp.h4, hp.hs, hp.o1, hp.o4, hp.os, by omega, fun v hv => ?_⟩, hp, rfl, rfl, by omega, by omega, by omega, fun i h0 h1 => ?_⟩
  · have hm : v ∈ p.wishes := by
      rcases List.mem_append.mp hv with q | q
      · exact List.mem_of_mem_take q
      · exact List.mem_of_mem_drop q
    obtain ⟨q1, q2, q3, q4, q5, q6, q7, q8⟩ := hp.ws v hm
    exact ⟨q1, q2, q3, q4, q5, q6, q7, q8⟩
  · obtain ⟨j, rfl⟩ : ∃ j : Nat, i = j := ⟨i.toNat, by omega⟩
    have hj : j + 1 < p.wishes.length := by omega
    unfold Plan.wish skip without
    rw [Int.toNat_natCast]
    simp only [List.getD]
    by_cases c : (j : Int) < w
    · rw [if_pos c, Int.toNat_natCast, List.getElem?_append_left (by rw [List.length_take]; omega), List.getElem?_take_of_lt (by omega)]
    · rw [if_neg c, List.getElem?_append_right (by rw [List.length_take]; omega), List.getElem?_drop, List.length_take]
      have e : w + 1 + (j - min w p.wishes.length) = ((j : Int) + 1).toNat := by omega
      rw [e]
/-! the first wish twice -/
def twin (p : Plan) : Plan := ⟨p.houses, p.objects, p.wishes ++ p.wishes.take 1⟩
theorem more_ok {p : Plan} (hp : p.Ok) (h7 : p.wishes.length ≤ 7) {v : Wish} (hv : v.Ok p) : (⟨p.houses, p.objects, p.wishes ++ [v]⟩ : Plan).Ok := by
  refine ⟨hp.h1, hp.h4, hp.hs, hp.o1, hp.o4, hp.os, by show (p.wishes ++ [v]).length ≤ 8; rw [List.length_append]; show p.wishes.length + 1 ≤ 8; omega, fun u hu => ?_⟩
  have : u.Ok p := by
    rcases List.mem_append.mp hu with q | q
    · exact hp.ws u q
    · rw [List.mem_singleton.mp q]; exact hv
  obtain ⟨q1, q2, q3, q4, q5, q6, q7, q8⟩ := this
  exact ⟨q1, q2, q3, q4, q5, q6, q7, q8⟩
theorem more_wo {p : Plan} (hp : p.Ok) (h7 : p.wishes.length ≤ 7) {v : Wish} (hv : v.Ok p) : Wo p (⟨p.houses, p.objects, p.wishes ++ [v]⟩ : Plan) p.wishes.length := by
  have ok := more_ok hp h7 hv
  refine ⟨hp, ok, rfl, rfl, ?_, by omega, ?_, fun i h0 h1 => ?_⟩
  · show _ = ((p.wishes ++ [v]).length : Int); rw [List.length_append]; rfl
  · show _ < ((p.wishes ++ [v]).length : Int); rw [List.length_append]; show (p.wishes.length : Int) < ((p.wishes.length + 1 : Nat) : Int); omega
  · unfold Plan.wish skip
    rw [if_pos h1]
    simp only [List.getD]
    rw [List.getElem?_append_left (by omega)]
theorem twin_eq {p : Plan} (h : 0 < p.wishes.length) : twin p = ⟨p.houses, p.objects, p.wishes ++ [p.wish 0]⟩ := by
  unfold twin
  have : p.wishes.take 1 = [p.wish 0] := by
    cases q : p.wishes with
    | nil => rw [q] at h; cases h
    | cons a l => simp [Plan.wish, q]
  rw [this]
theorem filter_ins {p : Plan} {s : List Int} (hs : SomeOk p s) {x : Int} (hx : x ∈ s) : ins p (s.filter fun y => decide (y ≠ x)) x = s := by
  have h0 := hs.lo x hx
  have h1 := hs.hi x hx
  have hf : SomeOk p (s.filter fun y => decide (y ≠ x)) := hs.sub List.filter_sublist
  refine asc_ext (ins_some p _ x).as hs.as fun y => ?_
  rw [mem_ins hf h0 h1, List.mem_filter, decide_eq_true_iff]
  constructor
  · rintro (h | h)
    · exact h.1
    · rw [h]; exact hx
  · intro h
    by_cases e : y = x
    · exact Or.inr e
    · exact Or.inl ⟨h, e⟩
section
variable {q : Plan} {a b : Int}
/-- two wishes that are equal stand for each other -/
theorem swap_good (hq : q.Ok) (ha : 0 ≤ a ∧ a < q.wishes.length) (hb : 0 ≤ b ∧ b < q.wishes.length) (e : q.wish a = q.wish b) {s : List Int} (hs : SomeOk q s) (h1 : a ∉ s) (h2 : b ∉ s) : good q (ins q s a) = good q (ins q s b) := by
  rw [← add_good hq hs ha.1 ha.2 h1, ← add_good hq hs hb.1 hb.2 h2]
  unfold named
  rw [List.map_append, List.map_append]
  show areGood q (s.map q.wish ++ [q.wish a]) = areGood q (s.map q.wish ++ [q.wish b])
  rw [e]
theorem not_both (hq : q.Ok) (hab : a < b) (e : q.wish a = q.wish b) {s : List Int} (hs : SomeOk q s) (hg : good q s = true) : ¬ (a ∈ s ∧ b ∈ s) := by
  rintro ⟨h1, h2⟩
  rw [good_iff] at hg
  refine hg (.rest a b) (mem_rest.mpr ⟨h1, h2, ?_, ?_⟩)
  · unfold aPair
    rw [e]; simp [hab]
  · unfold aNear
    have hw := hq.ws _ (q.wish_mem (hs.lo b h2) (hs.hi b h2))
    have hr := (hq.os _ (q.obj_mem hw.i0 hw.i1)).r0
    have := hw.fl
    rw [e]
    simp only [Bool.and_eq_true, decide_eq_true_eq]
    omega
theorem swap_large (hq : q.Ok) (ha : 0 ≤ a ∧ a < q.wishes.length) (hb : 0 ≤ b ∧ b < q.wishes.length) (hab : a ≠ b) (e : q.wish a = q.wish b) {r : List Int} (hr : r ∈ largest q) (h1 : a ∈ r) : ∃ t ∈ largest q, b ∈ t ∧ a ∉ t := by
  obtain ⟨⟨hs, hg⟩, hl⟩ := mem_largest.mp hr
  have nb : b ∉ r := fun h2 => by
    rcases Int.lt_or_gt_of_ne hab with k | k
    · exact not_both hq k e hs hg ⟨h1, h2⟩
    · exact not_both hq k e.symm hs hg ⟨h2, h1⟩
  have hf : SomeOk q (r.filter fun y => decide (y ≠ a)) := hs.sub List.filter_sublist
  have n1 : a ∉ r.filter fun y => decide (y ≠ a) := by simp
  have n2 : b ∉ r.filter fun y => decide (y ≠ a) := fun h => nb (List.mem_filter.mp h).1
  have hi := filter_ins hs h1
  refine ⟨ins q (r.filter fun y => decide (y ≠ a)) b, mem_largest.mpr ⟨⟨ins_some q _ b, ?_⟩, ?_⟩, (mem_ins hf hb.1 hb.2).mpr (Or.inr rfl), fun h => ?_⟩
  · rw [← swap_good hq ha hb e hf n1 n2, hi]; exact hg
  · rw [ins_len hf hb.1 hb.2 n2, ← ins_len hf ha.1 ha.2 n1, hi]; exact hl
  · rcases (mem_ins hf hb.1 hb.2).mp h with k | k
    · exact n1 k
    · exact hab k
theorem twin_sure (hq : q.Ok) (ha : 0 ≤ a ∧ a < q.wishes.length) (hb : 0 ≤ b ∧ b < q.wishes.length) (hab : a ≠ b) (e : q.wish a = q.wish b) : isSure q a = false := by
  cases c : isSure q a with
  | false => rfl
  | true =>
    obtain ⟨t, ht, _, hn⟩ := swap_large hq ha hb hab e (best_mem hq) (sure_iff.mp c _ (best_mem hq))
    exact absurd (sure_iff.mp c t ht) hn
theorem twin_role (hq : q.Ok) (ha : 0 ≤ a ∧ a < q.wishes.length) (hb : 0 ≤ b ∧ b < q.wishes.length) (hab : a ≠ b) (e : q.wish a = q.wish b) : roleR q a = roleR q b := by
  unfold roleR
  rw [twin_sure hq ha hb hab e, twin_sure hq hb ha hab.symm e.symm]
  have : isAny q a = isAny q b := by
    rw [Bool.eq_iff_iff, any_iff, any_iff]
    constructor
    · rintro ⟨r, hr, h1⟩
      obtain ⟨t, ht, k, _⟩ := swap_large hq ha hb hab e hr h1
      exact ⟨t, ht, k⟩
    · rintro ⟨r, hr, h1⟩
      obtain ⟨t, ht, k, _⟩ := swap_large hq hb ha hab.symm e.symm hr h1
      exact ⟨t, ht, k⟩
  rw [this]
end
/-! sorted ints -/
def sortI (l : List Int) : List Int := l.mergeSort fun a b => !decide (b < a)
theorem sort_ints (l : List Int) : sortD (l.map PyData.int) = (sortI l).map PyData.int := by
  unfold sortD sortI
  rw [← List.map_mergeSort (r := fun a b => !decide (b < a)) (s := PySem.W.dataLe false id) (f := PyData.int) (fun a _ b _ => by rw [PySem.W.dataLe_eq]; show (!decide (b < a)) = !PySem.W.dataLt (.int b) (.int a); rw [PySem.W.dataLt_int])]
theorem sortI_is {l t : List Int} (h : l.Perm t) (ht : asc t = true) : sortI l = t := by
  have p : (sortI l).Perm t := (List.mergeSort_perm ..).trans h
  refine p.eq_of_pairwise (le := fun a b : Int => a ≤ b) (fun a b _ _ h1 h2 => by omega) ?_ (((asc_iff t).mp ht).imp fun h => by omega)
  have := List.pairwise_mergeSort (le := fun a b : Int => !decide (b < a)) (fun a b c h1 h2 => by
    simp only [Bool.not_eq_true', decide_eq_false_iff_not] at h1 h2 ⊢; omega) (fun a b => by
    rw [Bool.or_eq_true]; simp only [Bool.not_eq_true', decide_eq_false_iff_not]; omega) l
  exact this.imp fun h => by simpa using h
theorem srt_ints (l : List Int) : Srt (l.map PyData.int) := by
  refine ⟨fun d hd d' hd' => ?_, .inl (.inr fun d hd => ?_), fun d hd => ?_⟩
  · obtain ⟨a, _, rfl⟩ := List.mem_map.mp hd
    obtain ⟨b, _, rfl⟩ := List.mem_map.mp hd'
    simp [PySem.W.alike]
  · obtain ⟨a, _, rfl⟩ := List.mem_map.mp hd
    exact ⟨(fun z => by cases z), (fun xs z => by cases z)⟩
  · obtain ⟨a, _, rfl⟩ := List.mem_map.mp hd
    exact ⟨(fun z => by cases z), by simp [PyData.depth]⟩
def c_law_without : Ct := ⟨Plan × Nat, fun a => [eP a.1, .int a.2], fun a => a.1.Ok ∧ a.2 < a.1.wishes.length, fun a => Eq (eP (without a.1 a.2))⟩
def c_law_roles : Ct := ⟨Plan, fun p => [eP p, .int (mostGranted p : Nat)], fun p => p.Ok, fun _ => Eq (.bool true)⟩
def rolesOf (p : Plan) : List Role := (rangeD 0 p.wishes.length).map (roleR p)
end Mus

namespace Mus
open PySem PySem.Spec PyProof.Rows L2 PL
/-! ## spans: (begin, end) -/
abbrev Span := Int × Int
def pairLt (a b : Int × Int) : Bool := decide (a.1 < b.1) || (decide (a.1 = b.1) && decide (a.2 < b.2))
def sortP (l : List (Int × Int)) : List (Int × Int) := l.mergeSort fun a b => !pairLt b a
theorem sortP_perm (l : List (Int × Int)) : (sortP l).Perm l := List.mergeSort_perm ..
theorem sortP_sorted (l : List (Int × Int)) : (sortP l).Pairwise fun a b => pairLt b a = false := by
  have h := List.pairwise_mergeSort (le := fun a b : Int × Int => !pairLt b a) (fun a b c h1 h2 => by
    simp only [pairLt, Bool.not_eq_true', Bool.or_eq_false_iff, Bool.and_eq_false_iff, decide_eq_false_iff_not] at h1 h2 ⊢
    omega) (fun a b => by
    rw [Bool.or_eq_true]
    simp only [pairLt, Bool.not_eq_true', Bool.or_eq_false_iff, Bool.and_eq_false_iff, decide_eq_false_iff_not]
    omega) l
  exact h.imp fun h => by simpa using h
def isIn (k : Int) (s : Span) : Bool := decide (s.1 ≤ k) && decide (k ≤ s.2)
theorem isIn_iff {k : Int} {s : Span} : isIn k s = true ↔ s.1 ≤ k ∧ k ≤ s.2 := by
  unfold isIn
  rw [Bool.and_eq_true, decide_eq_true_iff, decide_eq_true_iff]
def meets (l : List Span) (ks : List Int) : Bool := l.all fun s => ks.any fun k => isIn k s
theorem meets_iff {l : List Span} {ks : List Int} : meets l ks = true ↔ ∀ s ∈ l, ∃ k ∈ ks, s.1 ≤ k ∧ k ≤ s.2 := by
  unfold meets
  rw [List.all_eq_true]
  constructor
  · intro h s hs
    obtain ⟨k, h1, h2⟩ := List.any_eq_true.mp (h s hs)
    exact ⟨k, h1, isIn_iff.mp h2⟩
  · intro h s hs
    obtain ⟨k, h1, h2⟩ := h s hs
    exact List.any_eq_true.mpr ⟨k, h1, isIn_iff.mpr h2⟩
/-- taken greedily, behind an end -/
def after (o : Option Int) (b : Int) : Bool := match o with
  | none => true
  | some x => decide (x < b)
def greedy : Option Int → List Span → List Int
  | _, [] => []
  | o, s :: l => if after o s.1 = true then s.2 :: greedy (some s.2) l else greedy o l
theorem greedy_cons (o : Option Int) (s : Span) (l : List Span) : greedy o (s :: l) = if after o s.1 = true then s.2 :: greedy (some s.2) l else greedy o l := by rw [greedy]
def endsMet (l : List Span) : List Int := greedy none l
def endStep (f : List Int) (s : Span) : List Int := if f.isEmpty || decide (f.getLastD 0 < s.1) then f ++ [s.2] else f
theorem after_last (f : List Int) (b : Int) : after f.getLast? b = (f.isEmpty || decide (f.getLastD 0 < b)) := by
  cases f with
  | nil => rfl
  | cons a l => rw [List.getLast?_cons, List.getLastD_cons, ← List.getLastD_eq_getLast?]; rfl
theorem fold_greedy : ∀ (l : List Span) (f : List Int), l.foldl endStep f = f ++ greedy f.getLast? l
  | [], f => by simp [greedy]
  | s :: l, f => by
    rw [List.foldl_cons, fold_greedy l]
    rw [greedy_cons, after_last]
    unfold endStep
    by_cases c : (f.isEmpty || decide (f.getLastD 0 < s.1)) = true
    · rw [if_pos c, if_pos c]
      simp
    · rw [if_neg c, if_neg c]
theorem fold_ends (l : List Span) : l.foldl endStep [] = endsMet l := by rw [fold_greedy]; rfl
theorem greedy_len : ∀ (l : List Span) (o : Option Int), (greedy o l).length ≤ l.length
  | [], o => by simp [greedy]
  | s :: l, o => by
    rw [greedy_cons]
    have h1 := greedy_len l (some s.2)
    have h2 := greedy_len l o
    split <;> simp only [List.length_cons] <;> omega
/-- in the order of their ends; none ends before it begins -/
structure Srtd (l : List Span) : Prop where
  so : l.Pairwise fun a b => a.2 ≤ b.2
  be : ∀ s ∈ l, s.1 ≤ s.2
theorem Srtd.tail {a : Span} {l : List Span} (h : Srtd (a :: l)) : Srtd l := ⟨(List.pairwise_cons.mp h.so).2, fun s hs => h.be s (List.mem_cons_of_mem _ hs)⟩
theorem Srtd.sub {l m : List Span} (h : Srtd l) (k : m.Sublist l) : Srtd m := ⟨h.so.sublist k, fun s hs => h.be s (k.subset hs)⟩
/-- the ends meet all -/
theorem greedy_meets : ∀ (l : List Span) (o : Option Int), Srtd l → ∀ s ∈ l, (∃ k ∈ greedy o l, s.1 ≤ k ∧ k ≤ s.2) ∨ ∃ x, o = some x ∧ s.1 ≤ x
  | [], _, _, s, hs => by cases hs
  | a :: l, o, h, s, hs => by
    obtain ⟨p1, p2⟩ := List.pairwise_cons.mp h.so
    rw [greedy_cons]
    by_cases c : after o a.1 = true
    · rw [if_pos c]
      left
      rcases List.mem_cons.mp hs with e | hs
      · exact ⟨a.2, List.mem_cons_self, by rw [e]; exact h.be a List.mem_cons_self, by rw [e]; exact Int.le_refl _⟩
      · rcases greedy_meets l (some a.2) h.tail s hs with ⟨k, h1, h2⟩ | ⟨x, hx, hl⟩
        · exact ⟨k, List.mem_cons_of_mem _ h1, h2⟩
        · cases hx
          exact ⟨a.2, List.mem_cons_self, hl, p1 s hs⟩
    · rw [if_neg c]
      rcases List.mem_cons.mp hs with e | hs
      · right
        cases o with
        | none => exact absurd rfl c
        | some x =>
          simp only [after, decide_eq_true_iff] at c
          exact ⟨x, rfl, by rw [e]; omega⟩
      · exact greedy_meets l o h.tail s hs
theorem ends_meet {l : List Span} (h : Srtd l) : meets l (endsMet l) = true := meets_iff.mpr fun s hs => by
  rcases greedy_meets l none h s hs with q | ⟨x, hx, _⟩
  · exact q
  · cases hx
/-- spans apart from each other -/
def Aprt (l : List Span) : Prop := l.Pairwise fun a b => a.2 < b.1 ∨ b.2 < a.1
theorem greedy_apart : ∀ (l : List Span) (o : Option Int), Srtd l → ∃ d : List Span, d.Sublist l ∧ d.map Prod.snd = greedy o l ∧ d.Pairwise (fun a b => a.2 < b.1) ∧ ∀ s ∈ d, after o s.1 = true
  | [], o, _ => ⟨[], List.Sublist.refl _, rfl, .nil, by simp⟩
  | a :: l, o, h => by
    rw [greedy_cons]
    by_cases c : after o a.1 = true
    · rw [if_pos c]
      obtain ⟨d, d1, d2, d3, d4⟩ := greedy_apart l (some a.2) h.tail
      refine ⟨a :: d, d1.cons₂ a, by rw [List.map_cons, d2], List.pairwise_cons.mpr ⟨fun s hs => by simpa [after] using d4 s hs, d3⟩, fun s hs => ?_⟩
      rcases List.mem_cons.mp hs with e | hs
      · rw [e]; exact c
      · have q := d4 s hs
        cases o with
        | none => rfl
        | some x =>
          simp only [after, decide_eq_true_iff] at q c ⊢
          have := h.be a List.mem_cons_self
          omega
    · rw [if_neg c]
      obtain ⟨d, d1, d2, d3, d4⟩ := greedy_apart l o h.tail
      exact ⟨d, d1.cons a, d2, d3, d4⟩
/-- spans apart need a week each -/
theorem apart_weeks : ∀ (d : List Span) (ks : List Int), Aprt d → (∀ s ∈ d, ∃ k ∈ ks, s.1 ≤ k ∧ k ≤ s.2) → d.length ≤ ks.length
  | [], _, _, _ => Nat.zero_le _
  | a :: d, ks, h, m => by
    obtain ⟨p1, p2⟩ := List.pairwise_cons.mp h
    obtain ⟨k, hk, h1, h2⟩ := m a List.mem_cons_self
    have ih := apart_weeks d (ks.erase k) p2 fun s hs => by
      obtain ⟨j, hj, j1, j2⟩ := m s (List.mem_cons_of_mem _ hs)
      refine ⟨j, (List.mem_erase_of_ne fun e => ?_).mpr hj, j1, j2⟩
      have := p1 s hs
      omega
    have e := List.length_erase_of_mem hk
    have := List.length_pos_of_mem hk
    rw [List.length_cons]; omega
theorem ends_least {l : List Span} (h : Srtd l) {ks : List Int} (m : meets l ks = true) : (endsMet l).length ≤ ks.length := by
  obtain ⟨d, d1, d2, d3, _⟩ := greedy_apart l none h
  have e : (endsMet l).length = d.length := by
    have := congrArg List.length d2
    rw [List.length_map] at this
    exact this.symm
  rw [e]
  exact apart_weeks d ks (d3.imp Or.inl) fun s hs => meets_iff.mp m s (d1.subset hs)
/-- of spans apart there are no more -/
theorem apart_most {l : List Span} (h : Srtd l) {d : List Span} (hd : ∀ s ∈ d, s ∈ l) (ha : Aprt d) : d.length ≤ (endsMet l).length :=
  apart_weeks d _ ha fun s hs => meets_iff.mp (ends_meet h) s (hd s hs)
theorem ends_nil {l : List Span} (h : Srtd l) (e : (endsMet l).length = 0) : l = [] := by
  cases l with
  | nil => rfl
  | cons a l => simp [endsMet, greedy, after] at e
/-! ## the fewest weeks -/
def restOf (l : List Span) (k : Int) : List Span := l.filter fun s => !isIn k s
def minL : List Int → Int
  | [] => 0
  | a :: l => l.foldl (fun m x => if x < m then x else m) a
theorem foldl_min : ∀ (l : List Int) (a : Int), (l.foldl (fun m x => if x < m then x else m) a) ≤ a ∧ (∀ x ∈ l, (l.foldl (fun m x => if x < m then x else m) a) ≤ x) ∧ (l.foldl (fun m x => if x < m then x else m) a ∈ a :: l)
  | [], a => ⟨Int.le_refl _, by simp, List.mem_cons_self⟩
  | b :: l, a => by
    obtain ⟨h1, h2, h3⟩ := foldl_min l (if b < a then b else a)
    rw [List.foldl_cons]
    refine ⟨?_, fun x hx => ?_, ?_⟩
    · split at h1 <;> rename_i c
      · rw [if_pos c]; omega
      · rw [if_neg c]; exact h1
    · rcases List.mem_cons.mp hx with e | e
      · subst e
        split at h1 <;> rename_i c
        · rw [if_pos c]; exact h1
        · rw [if_neg c]; omega
      · exact h2 x e
    · rcases List.mem_cons.mp h3 with e | e
      · rw [e]
        by_cases c : b < a
        · rw [if_pos c]; exact List.mem_cons_of_mem _ List.mem_cons_self
        · rw [if_neg c]; exact List.mem_cons_self
      · exact List.mem_cons_of_mem _ (List.mem_cons_of_mem _ e)
theorem minL_le {l : List Int} {x : Int} (h : x ∈ l) : minL l ≤ x := by
  cases l with
  | nil => cases h
  | cons a l =>
    rcases List.mem_cons.mp h with e | e
    · rw [e]; exact (foldl_min l a).1
    · exact (foldl_min l a).2.1 x e
theorem minL_mem {l : List Int} (h : l ≠ []) : minL l ∈ l := by
  cases l with
  | nil => exact absurd rfl h
  | cons a l => exact (foldl_min l a).2.2
def fewer (l : List Span) (k : Int) : Bool := decide ((endsMet (restOf l k)).length < (endsMet l).length)
def loB (l : List Span) : Int := minL (l.map Prod.fst)
def hiB (l : List Span) : Int := (l.headD (0, 0)).2
def fwRange (l : List Span) : List Int := rangeD (loB l) (hiB l + 1 - loB l).toNat
def fwFind (l : List Span) : Option Int := (fwRange l).find? (fewer l)
def fwF : Nat → List Span → List Int
  | 0, _ => []
  | n + 1, l => if l.isEmpty then [] else match fwFind l with
    | some k => k :: fwF n (restOf l k)
    | none => []
def firstWeeks (l : List Span) : List Int := fwF l.length l
theorem rest_sub (l : List Span) (k : Int) : (restOf l k).Sublist l := List.filter_sublist
theorem mem_rest_of {l : List Span} {k : Int} {s : Span} : s ∈ restOf l k ↔ s ∈ l ∧ ¬ (s.1 ≤ k ∧ k ≤ s.2) := by
  unfold restOf
  rw [List.mem_filter, Bool.not_eq_true', ← Bool.not_eq_true, isIn_iff]
theorem greedy_filter : ∀ (m : List Span) (x y : Int), x ≤ y → Srtd m → greedy (some y) (m.filter fun s => decide (x < s.1)) = greedy (some y) m
  | [], _, _, _, _ => rfl
  | t :: m, x, y, h, hm => by
    have tb := hm.be t List.mem_cons_self
    by_cases c : x < t.1
    · rw [List.filter_cons_of_pos (by simpa using c)]
      rw [greedy_cons, greedy_cons, greedy_filter m x t.2 (by omega) hm.tail, greedy_filter m x y h hm.tail]
    · rw [List.filter_cons_of_neg (by simpa using c), greedy_filter m x y h hm.tail]
      rw [greedy_cons, if_neg (by simp only [after, decide_eq_true_iff]; omega)]
theorem greedy_none : ∀ (l : List Span) (x : Int), Srtd l → (∀ s ∈ l, x ≤ s.2) → greedy none (l.filter fun s => decide (x < s.1)) = greedy (some x) l
  | [], _, _, _ => rfl
  | b :: l, x, hl, hx => by
    have bb := hl.be b List.mem_cons_self
    by_cases c : x < b.1
    · rw [List.filter_cons_of_pos (by simpa using c)]
      rw [greedy_cons, greedy_cons, if_pos (by rfl : after none b.1 = true), if_pos (by simpa [after] using c), greedy_filter l x b.2 (by omega) hl.tail]
    · rw [List.filter_cons_of_neg (by simpa using c), greedy_none l x hl.tail fun s hs => hx s (List.mem_cons_of_mem _ hs)]
      rw [greedy_cons, if_neg (by simp only [after, decide_eq_true_iff]; omega)]
theorem head_meets {a : Span} {l : List Span} (h : Srtd (a :: l)) : endsMet (restOf (a :: l) a.2) = greedy (some a.2) l := by
  have e : restOf (a :: l) a.2 = l.filter fun s => decide (a.2 < s.1) := by
    unfold restOf
    have c : (!isIn a.2 a) = false := by
      rw [Bool.not_eq_false', isIn_iff]
      exact ⟨h.be a List.mem_cons_self, Int.le_refl _⟩
    rw [List.filter_cons_of_neg (by rw [c]; exact Bool.false_ne_true)]
    refine List.filter_congr fun s hs => ?_
    have := (List.pairwise_cons.mp h.so).1 s hs
    rw [Bool.eq_iff_iff, Bool.not_eq_true', ← Bool.not_eq_true, isIn_iff, decide_eq_true_iff]
    omega
  rw [e]
  exact greedy_none l a.2 h.tail (List.pairwise_cons.mp h.so).1
theorem fewer_head {a : Span} {l : List Span} (h : Srtd (a :: l)) : fewer (a :: l) a.2 = true := by
  unfold fewer
  rw [head_meets h, decide_eq_true_iff]
  show _ < (greedy none (a :: l)).length
  rw [greedy_cons, if_pos (by rfl : after none a.1 = true), List.length_cons]
  omega
/-- a week is found; the weeks left lie behind it, and need one less -/
structure Found (l : List Span) (k : Int) : Prop where
  find : fwFind l = some k
  lo : ∀ s ∈ l, k ≤ s.2
  mn : loB l ≤ k
  cnt : (endsMet (restOf l k)).length + 1 = (endsMet l).length
  beh : ∀ s ∈ restOf l k, k < s.1
  len : (restOf l k).length < l.length
theorem loB_le {l : List Span} {s : Span} (h : s ∈ l) : loB l ≤ s.1 := minL_le (List.mem_map.mpr ⟨s, h, rfl⟩)
theorem found_ex {l : List Span} (h : Srtd l) (hn : l ≠ []) : ∃ k, Found l k := by
  cases l with
  | nil => exact absurd rfl hn
  | cons a l =>
    have ha := loB_le (l := a :: l) List.mem_cons_self
    have hb := h.be a List.mem_cons_self
    have hh : hiB (a :: l) = a.2 := rfl
    have mem : a.2 ∈ fwRange (a :: l) := rangeD_mem.mpr ⟨by omega, by rw [hh]; omega⟩
    cases q : fwFind (a :: l) with
    | none =>
      have := List.find?_eq_none.mp q a.2 mem
      exact absurd (fewer_head h) this
    | some k =>
      have hk := List.mem_of_find?_eq_some q
      have hf := List.find?_some q
      have hr := rangeD_mem.mp hk
      rw [hh] at hr
      have lo : ∀ s ∈ a :: l, k ≤ s.2 := fun s hs => by
        rcases List.mem_cons.mp hs with e | e
        · rw [e]; omega
        · have := (List.pairwise_cons.mp h.so).1 s e; omega
      have hf' : (endsMet (restOf (a :: l) k)).length < (endsMet (a :: l)).length := of_decide_eq_true hf
      have sr := h.sub (rest_sub (a :: l) k)
      have up : (endsMet (a :: l)).length ≤ (k :: endsMet (restOf (a :: l) k)).length := ends_least h (meets_iff.mpr fun s hs => by
        by_cases c : s.1 ≤ k ∧ k ≤ s.2
        · exact ⟨k, List.mem_cons_self, c⟩
        · obtain ⟨j, j1, j2⟩ := meets_iff.mp (ends_meet sr) s (mem_rest_of.mpr ⟨hs, c⟩)
          exact ⟨j, List.mem_cons_of_mem _ j1, j2⟩)
      rw [List.length_cons] at up
      refine ⟨k, q, lo, by omega, by omega, fun s hs => ?_, ?_⟩
      · obtain ⟨h1, h2⟩ := mem_rest_of.mp hs
        have := lo s h1
        omega
      · refine Nat.lt_of_not_le fun hle => ?_
        have := (rest_sub (a :: l) k).eq_of_length_le hle
        rw [this] at hf'
        omega
theorem Found.uniq {l : List Span} {k j : Int} (h : Found l k) (q : fwFind l = some j) : j = k := by
  rw [h.find] at q; exact (Option.some.inj q).symm
theorem fwF_eq : ∀ (n : Nat) (l : List Span), Srtd l → l.length ≤ n → fwF n l = firstWeeks l
  | 0, l, h, hl => by
    have : l = [] := List.eq_nil_of_length_eq_zero (by omega)
    subst this; rfl
  | n + 1, [], _, _ => rfl
  | n + 1, a :: l, h, hl => by
    obtain ⟨k, hk⟩ := found_ex h (by simp)
    have e : ∀ m, fwF (m + 1) (a :: l) = k :: fwF m (restOf (a :: l) k) := fun m => by
      show (if (a :: l).isEmpty = true then [] else match fwFind (a :: l) with
        | some k => k :: fwF m (restOf (a :: l) k)
        | none => []) = _
      rw [hk.find]; rfl
    have hs := h.sub (rest_sub (a :: l) k)
    have hlen := hk.len
    rw [List.length_cons] at hl hlen
    unfold firstWeeks
    rw [List.length_cons, e, e, fwF_eq n _ hs (by omega), fwF_eq l.length _ hs (by omega)]
termination_by n => n
theorem firstWeeks_nil : firstWeeks [] = [] := rfl
theorem firstWeeks_step {l : List Span} (h : Srtd l) {k : Int} (hk : Found l k) : firstWeeks l = k :: firstWeeks (restOf l k) := by
  have hs := h.sub (rest_sub l k)
  have hlen := hk.len
  unfold firstWeeks
  cases q : l.length with
  | zero => omega
  | succ n =>
    show (if l.isEmpty = true then [] else match fwFind l with
        | some k => k :: fwF n (restOf l k)
        | none => []) = _
    have : l.isEmpty = false := by cases l; · cases q
                                   · rfl
    rw [this, hk.find]
    show k :: fwF n (restOf l k) = _
    rw [fwF_eq n _ hs (by omega)]
    rfl
/-- the weeks found: as many as spans apart, ascending, meeting all -/
theorem firstWeeks_is : ∀ (n : Nat) (l : List Span), l.length ≤ n → Srtd l → (firstWeeks l).length = (endsMet l).length ∧ asc (firstWeeks l) = true ∧ (∀ x ∈ firstWeeks l, loB l ≤ x) ∧ (∀ x ∈ firstWeeks l, ∃ s ∈ l, s.1 ≤ x ∧ x ≤ s.2) ∧ meets l (firstWeeks l) = true
  | n, [], _, _ => ⟨rfl, rfl, by simp [firstWeeks_nil], by simp [firstWeeks_nil], rfl⟩
  | 0, a :: l, hl, _ => by simp at hl
  | n + 1, a :: l, hl, h => by
    obtain ⟨k, hk⟩ := found_ex h (by simp)
    have hlen := hk.len
    obtain ⟨i1, i2, i3, i5, i4⟩ := firstWeeks_is n (restOf (a :: l) k) (by rw [List.length_cons] at hl hlen; omega) (h.sub (rest_sub _ k))
    rw [firstWeeks_step h hk]
    have beh : ∀ x ∈ firstWeeks (restOf (a :: l) k), k < x := fun x hx => by
      have e := i3 x hx
      have ne : restOf (a :: l) k ≠ [] := fun z => by rw [z] at hx; cases hx
      obtain ⟨s, hs, es⟩ := List.mem_map.mp (minL_mem (l := (restOf (a :: l) k).map Prod.fst) (by simpa using ne))
      have := hk.beh s hs
      have e2 : loB (restOf (a :: l) k) = s.1 := es.symm
      omega
    refine ⟨by rw [List.length_cons, i1]; exact hk.cnt, ?_, fun x hx => ?_, fun x hx => ?_, meets_iff.mpr fun s hs => ?_⟩
    · rw [asc_iff] at i2 ⊢
      exact List.pairwise_cons.mpr ⟨beh, i2⟩
    · rcases List.mem_cons.mp hx with e | e
      · rw [e]; exact hk.mn
      · have := beh x e; have := hk.mn; omega
    · rcases List.mem_cons.mp hx with e | e
      · subst e
        by_cases c : ∃ s ∈ a :: l, s.1 ≤ x ∧ x ≤ s.2
        · exact c
        · have : restOf (a :: l) x = a :: l := List.filter_eq_self.mpr fun s hs => by
            rw [Bool.not_eq_true', ← Bool.not_eq_true, isIn_iff]
            exact fun z => c ⟨s, hs, z⟩
          rw [this] at hlen
          omega
      · obtain ⟨s, hs, h2⟩ := i5 x e
        exact ⟨s, (rest_sub _ k).subset hs, h2⟩
    · by_cases c : s.1 ≤ k ∧ k ≤ s.2
      · exact ⟨k, List.mem_cons_self, c⟩
      · obtain ⟨j, j1, j2⟩ := meets_iff.mp i4 s (mem_rest_of.mpr ⟨hs, c⟩)
        exact ⟨j, List.mem_cons_of_mem _ j1, j2⟩
end Mus

namespace PL
open PySem PySem.Spec PyProof.Rows L2
section
variable {X : Cx} {ρ ρ1 : List SD} {P : Po} {rest : List Stmt} {e : Expr} {pos pos' : Pos} {x : Str} {i : Nat}
theorem Sl.getV {Hm H : Hp} {ρ : List SD} {σ : Sg} {as : List Addr} (h : Sl Hm H ρ σ as) {i : Nat} {a : Int} (e : ρ[i]? = some (.dat (.int a))) : σ[i]? = some (some (.int a)) := by
  obtain ⟨v, h1, r⟩ := h.get e
  cases r
  exact h1
/-- name += an int -/
theorem hs_aug {a b : Int} (hN : X.N.Nodup) (hi : X.N[i]? = some x) (hx : Loc X.env.scope x) (ho : ρ[i]? = some (.dat (.int a))) (he : Ev X ρ e (.int b)) (k : HSs X rest (ρ.set i (.dat (.int (a + b)))) P)
    (hf : X.fn x = true ∨ X.env.scope.names.lookup x = some .local := by first | exact .inl rfl | exact .inr rfl | assumption) : HSs X (.AugAssign (.Name x pos') .Add e pos :: rest) ρ P := by
  have hp : plainAt ρ i = true := by unfold plainAt; rw [ho]; rfl
  refine hs_cons (M := fun r => r = ρ.set i (.dat (.int (a + b)))) (ps_imp (ps_aug hN hi hx he ip_add hf) fun Dn σ H ⟨F, O0, O1, s, q, _⟩ => ?_) fun r z => by subst z; exact k
  refine ⟨.int a, s.sl.getV ho, F, O0, O1, s, fun v d H' s' e' hd r => ?_⟩
  subst hd
  cases r
  exact ⟨a, b, rfl, rfl, q _ O1 _ H' rfl (s'.set hp (.int _))⟩
end
/-! ## sorted(set(a tuple of ints)) -/
def rSetTI (K : PySem.W.Frag) (w : World) : List V → Hp → VK → Prop := fun xs H Q => ∃ (l : Addr) (ns : List Int), xs = [.ref l] ∧ SqT K H l (ns.map V.int) ∧ ns.length ≤ 1000 ∧ ∀ p c, H p = none → c ≤ ns.length → Q (.ref p) (upd H p (SetO w p (fun j => decide (j ∈ ns)) c))
theorem cr_setTI {X : Cx} (hc : X.calm = true) : CallR X (.type "set") (rSetTI X.K X.w) := by
  intro pins s σ H vs us Q I r h
  obtain ⟨l, ns, rfl, hq, hl, q⟩ := h
  obtain ⟨u, rfl, ru⟩ := vals1 r
  obtain rfl : u = Value.ref l := ru
  obtain ⟨its, rv, pt, hz⟩ := I.tuple hq
  have hi : IntsAre its.toArray.toList ns := ints_of_vals rv
  refine call_set_tupI ns (I.ok.hd hc) (show s.heap.IsTuple l its.toArray from pt) hi (by unfold scanBound; omega) fun h' tk c R1 hcn k => ?_
  exact ⟨.ref _, _, I.laid (fun b u e => k b u e) (Nat.le_refl _) (setO_new R1), rfl, q _ c (I.hok.fresh (Nat.le_refl _)) hcn⟩
/-- ascending, without duplicates, the same members: there is one such list -/
theorem strict_uniq : ∀ {l m : List Int}, l.Pairwise (· < ·) → m.Pairwise (· < ·) → (∀ x, x ∈ l ↔ x ∈ m) → l = m
  | [], [], _, _, _ => rfl
  | [], b :: m, _, _, h => absurd ((h b).mpr List.mem_cons_self) (by simp)
  | a :: l, [], _, _, h => absurd ((h a).mp List.mem_cons_self) (by simp)
  | a :: l, b :: m, h1, h2, h => by
    obtain ⟨p1, p2⟩ := List.pairwise_cons.mp h1
    obtain ⟨q1, q2⟩ := List.pairwise_cons.mp h2
    have e : a = b := by
      rcases List.mem_cons.mp ((h a).mp List.mem_cons_self) with e | e
      · exact e
      · rcases List.mem_cons.mp ((h b).mpr List.mem_cons_self) with e2 | e2
        · exact e2.symm
        · have := q1 a e; have := p1 b e2; omega
    subst e
    rw [strict_uniq p2 q2 fun x => ?_]
    constructor
    · intro hx
      rcases List.mem_cons.mp ((h x).mp (List.mem_cons_of_mem _ hx)) with e | e
      · have := p1 x hx; omega
      · exact e
    · intro hx
      rcases List.mem_cons.mp ((h x).mpr (List.mem_cons_of_mem _ hx)) with e | e
      · have := q1 x hx; omega
      · exact e
theorem ev_sortedSetT {X : Cx} {ρ : List SD} {a : Expr} {p p2 q pos : Pos} {ns ms : List Int} (hc : X.calm = true) (hg : Gl X "sorted") (hm : X.mg "sorted" = none) (hg2 : Gl X "set") (hm2 : X.mg "set" = none) (ha : Ev X ρ a (.tuple (ns.map PyData.int))) (hl : ns.length ≤ 63)
    (hms : ms.Pairwise (· < ·)) (hmem : ∀ x, x ∈ ms ↔ x ∈ ns)
    (h1 : starEach [a] X.env = (false, eval a X.env) :: starEach [] X.env := by rfl) (h2 : starEach [.Call (.Name "set" p2) [a] [] q] X.env = (false, eval (.Call (.Name "set" p2) [a] [] q) X.env) :: starEach [] X.env := by rfl) :
    Ev X ρ (.Call (.Name "sorted" p) [.Call (.Name "set" p2) [a] [] q] [] pos) (.list (ms.map PyData.int)) := by
  refine pe_imp (pe_callB (cr_sortedSet hc) hg hm (by decide +kernel) (pa_cons (pe_callTy (cr_setTI hc) hg2 hm2 (by decide +kernel) (ea_cons ha ea_nil h1) (by decide) (by decide) h1 rfl) pa_nil h2) (by decide) (by decide) h2 rfl) fun σ H Q ⟨F, O0, O1, s, k⟩ => ?_
  refine ⟨F, O0, O1, s, fun vs ds H1 s1 e1 hd r1 => ?_⟩
  subst hd
  obtain ⟨v, rfl, r2⟩ := rpA1 r1
  cases r2 with
  | tup g1 g2 g3 =>
    rename_i l xs
    refine ⟨l, ns, rfl, SqT.of (by rw [← g3.ints]; exact (msk_some g1).2), by omega, fun p c hp hcn => ?_⟩
    have s2 := s1.ex (Ex.new (o := SetO X.w p (fun j => decide (j ∈ ns)) c) hp)
    refine ⟨p, _, c, rfl, upd_same .., by omega, fun ns' p' hs' hm' hl' hp' => ?_⟩
    have e : ns' = ms := strict_uniq hs' hms fun x => by rw [hm' x, decide_eq_true_iff, hmem x]
    subst e
    have ex : Ex H1 (upd (upd H1 p (SetO X.w p (fun j => decide (j ∈ ns)) c)) p' (.lst (ns'.map V.int))) := (Ex.new hp).trans (Ex.new hp')
    exact (s1.kt e1 k) (.ref p') (.list (ns'.map PyData.int)) _ ex rfl (.lst (msk_upd ((s2.al).out hp')) (by rw [List.length_map, hl']; show c ≤ 4096; omega) (rpA_ints _))
/-- list(a tuple) -/
theorem cd_list {K : PySem.W.Frag} {ds : List PyData} : CD (fun xs H Q => ∃ p ys, xs = [.ref p] ∧ (SqL K H p ys ∨ SqT K H p ys) ∧ ∀ l, H l = none → Q (.ref l) (upd H l (.lst ys))) [.tuple ds] (Eq (.list ds)) := fun O H xs Q al r k => by
  obtain ⟨v, rfl, r1⟩ := rpA1 r
  cases r1 with
  | tup h1 h2 h3 => exact ⟨_, _, rfl, .inr (SqT.of (msk_some h1).2), k.lst al rfl h2 h3⟩
theorem ev_listT {X : Cx} {ρ : List SD} {a : Expr} {p pos : Pos} {ds : List PyData} (hg : Gl X "list") (hm : X.mg "list" = none) (ha : Ev X ρ a (.tuple ds)) (hs : starEach [a] X.env = (false, eval a X.env) :: starEach [] X.env := by rfl) : Ev X ρ (.Call (.Name "list" p) [a] [] pos) (.list ds) :=
  ev_callTy call_list_of hg hm (by decide +kernel) (ea_cons ha ea_nil hs) cd_list (by decide) (by decide) hs rfl
theorem ev_minI {X : Cx} {ρ : List SD} {a : Expr} {p pos : Pos} {ns : List Int} {m : Int} (hc : X.calm = true) (hg : Gl X "min") (hm : X.mg "min" = none) (ha : Ev X ρ a (.list (ns.map PyData.int))) (h1 : m ∈ ns) (h2 : ∀ y ∈ ns, m ≤ y) (hs : starEach [a] X.env = (false, eval a X.env) :: starEach [] X.env := by rfl) : Ev X ρ (.Call (.Name "min" p) [a] [] pos) (.int m) :=
  ev_callB (cr_min hc) hg hm (by decide +kernel) (ea_cons ha ea_nil hs) (cd_min h1 h2) (by decide) (by decide) hs rfl
/-- sorted lists, by what comes first -/
theorem sort_enc {α : Type} (e : α → PyData) (lt : α → α → Bool) (h : ∀ a b, PySem.W.dataLt (e a) (e b) = lt a b) (l : List α) : sortD (l.map e) = (l.mergeSort fun a b => !lt b a).map e := by
  unfold sortD
  rw [← List.map_mergeSort (r := fun a b => !lt b a) (s := PySem.W.dataLe false id) (f := e) (fun a _ b _ => by rw [PySem.W.dataLe_eq]; show (!lt b a) = !PySem.W.dataLt (e b) (e a); rw [h])]
theorem srt_enc {α : Type} (e : α → PyData) (hc : ∀ a, ∃ x r, e a = .tuple (x :: r)) (ha : ∀ a b, PySem.W.alike (e a) (e b) = true) (hd : ∀ a, (e a).depth ≤ 60) (l : List α) : Srt (l.map e) := by
  refine ⟨fun d hd d' hd' => ?_, .inl (.inl fun d hd => ?_), fun d hd' => ?_⟩
  · obtain ⟨a, _, rfl⟩ := List.mem_map.mp hd
    obtain ⟨b, _, rfl⟩ := List.mem_map.mp hd'
    exact ha a b
  · obtain ⟨a, _, rfl⟩ := List.mem_map.mp hd
    exact hc a
  · obtain ⟨a, _, rfl⟩ := List.mem_map.mp hd'
    obtain ⟨x, r, e1⟩ := hc a
    exact ⟨(fun z => by rw [e1] at z; cases z), hd a⟩
end PL

namespace Mus
open PySem PySem.Spec PyProof.Rows L2 PL
/-! ## mirrors: single.py -/
def endsOf (p : Plan) (i : Int) : List (Int × Int) := (p.wishes.filter fun w => decide (w.item = i)).map fun w => (w.last + (p.obj i).rest, w.first)
def spansOf (p : Plan) (i : Int) : List Span := (sortP (endsOf p i)).map fun x => (x.2, x.1)
def loansOf (p : Plan) (i : Int) : Nat := (endsMet (spansOf p i)).length
def meetingWeeks (p : Plan) (i : Int) : List Int := firstWeeks (spansOf p i)
def isIntD (d : PyData) : Bool := PL.isInt d && !isBool d
def areMeeting (p : Plan) (i : Int) (d : PyData) : Bool := match d with
  | .tuple ds => ds.all isIntD && (asc (ds.map toI) && meets (spansOf p i) (ds.map toI))
  | _ => false
def InObj (p : Plan) (i : Int) : Prop := 0 ≤ i ∧ i < p.objects.length
theorem mem_spans {p : Plan} {i : Int} {s : Span} : s ∈ spansOf p i ↔ ∃ w ∈ p.wishes, w.item = i ∧ s = (w.first, w.last + (p.obj i).rest) := by
  unfold spansOf endsOf
  rw [List.mem_map]
  constructor
  · rintro ⟨x, hx, rfl⟩
    rw [(sortP_perm _).mem_iff, List.mem_map] at hx
    obtain ⟨w, hw, rfl⟩ := hx
    obtain ⟨h1, h2⟩ := List.mem_filter.mp hw
    exact ⟨w, h1, of_decide_eq_true h2, rfl⟩
  · rintro ⟨w, hw, hi, rfl⟩
    refine ⟨(w.last + (p.obj i).rest, w.first), ?_, rfl⟩
    rw [(sortP_perm _).mem_iff, List.mem_map]
    exact ⟨w, List.mem_filter.mpr ⟨hw, decide_eq_true hi⟩, rfl⟩
theorem spans_len (p : Plan) (i : Int) : (spansOf p i).length ≤ p.wishes.length := by
  unfold spansOf endsOf
  rw [List.length_map, (sortP_perm _).length_eq, List.length_map]
  exact List.length_filter_le ..
theorem Plan.Ok.rest0 {p : Plan} (hp : p.Ok) {i : Int} (hi : InObj p i) : 0 ≤ (p.obj i).rest ∧ (p.obj i).rest ≤ 9 := by
  have h := hp.os _ (p.obj_mem hi.1 hi.2)
  exact ⟨h.r0, h.r1⟩
theorem spans_srtd {p : Plan} (hp : p.Ok) {i : Int} (hi : InObj p i) : Srtd (spansOf p i) := by
  refine ⟨?_, fun s hs => ?_⟩
  · unfold spansOf
    rw [List.pairwise_map]
    refine (sortP_sorted _).imp fun {a b} h => ?_
    simp only [pairLt, Bool.or_eq_false_iff, Bool.and_eq_false_iff, decide_eq_false_iff_not] at h
    show a.1 ≤ b.1
    omega
  · obtain ⟨w, hw, _, rfl⟩ := mem_spans.mp hs
    have := (hp.ws w hw).fl
    have := (hp.rest0 hi).1
    show w.first ≤ w.last + _
    omega
theorem spans_bound {p : Plan} (hp : p.Ok) {i : Int} (hi : InObj p i) {s : Span} (h : s ∈ spansOf p i) : 0 ≤ s.1 ∧ s.2 ≤ 69 := by
  obtain ⟨w, hw, _, rfl⟩ := mem_spans.mp h
  have h1 := hp.ws w hw
  have := (hp.rest0 hi).2
  exact ⟨h1.f0, by have := h1.l1; show w.last + _ ≤ _; omega⟩
theorem loans_least {p : Plan} (hp : p.Ok) {i : Int} (hi : InObj p i) {ks : List Int} (h : meets (spansOf p i) ks = true) : loansOf p i ≤ ks.length := ends_least (spans_srtd hp hi) h
/-- spans that hold spans of the other plan are met with them -/
theorem meets_hold {l m : List Span} (h : ∀ s ∈ m, ∃ t ∈ l, s.1 ≤ t.1 ∧ t.2 ≤ s.2) {ks : List Int} (k : meets l ks = true) : meets m ks = true := meets_iff.mpr fun s hs => by
  obtain ⟨t, ht, h1, h2⟩ := h s hs
  obtain ⟨j, hj, j1, j2⟩ := meets_iff.mp k t ht
  exact ⟨j, hj, by omega, by omega⟩
theorem loans_hold {p q : Plan} (hp : p.Ok) (hq : q.Ok) {i j : Int} (hi : InObj p i) (hj : InObj q j) (h : ∀ s ∈ spansOf q j, ∃ t ∈ spansOf p i, s.1 ≤ t.1 ∧ t.2 ≤ s.2) : loansOf q j ≤ loansOf p i :=
  loans_least hq hj (meets_hold h (ends_meet (spans_srtd hp hi)))
/-- one span more needs one week more at most -/
theorem loans_one {p q : Plan} (hp : p.Ok) (hq : q.Ok) {i j : Int} (hi : InObj p i) (hj : InObj q j) (x : Span) (hx : x.1 ≤ x.2) (h : ∀ s ∈ spansOf q j, s = x ∨ s ∈ spansOf p i) : loansOf q j ≤ loansOf p i + 1 := by
  have := loans_least hq hj (ks := x.1 :: endsMet (spansOf p i)) (meets_iff.mpr fun s hs => by
    rcases h s hs with e | e
    · rw [e]; exact ⟨x.1, List.mem_cons_self, Int.le_refl _, hx⟩
    · obtain ⟨k, hk, k2⟩ := meets_iff.mp (ends_meet (spans_srtd hp hi)) s e
      exact ⟨k, List.mem_cons_of_mem _ hk, k2⟩)
  rw [List.length_cons] at this
  exact this
theorem meeting_is {p : Plan} (hp : p.Ok) {i : Int} (hi : InObj p i) : (meetingWeeks p i).length = loansOf p i ∧ asc (meetingWeeks p i) = true ∧ meets (spansOf p i) (meetingWeeks p i) = true := by
  obtain ⟨h1, h2, _, _, h3⟩ := firstWeeks_is _ (spansOf p i) (Nat.le_refl _) (spans_srtd hp hi)
  exact ⟨h1, h2, h3⟩
theorem loans_le (p : Plan) (i : Int) : loansOf p i ≤ p.wishes.length := Nat.le_trans (greedy_len _ _) (spans_len p i)
theorem all_isInt (ks : List Int) : (ks.map PyData.int).all isIntD = true := List.all_eq_true.mpr fun d hd => by
  obtain ⟨k, _, rfl⟩ := List.mem_map.mp hd
  rfl
theorem areMeeting_row (p : Plan) (i : Int) (ks : List Int) : areMeeting p i (eT ks) = (asc ks && meets (spansOf p i) ks) := by
  show ((ks.map PyData.int).all isIntD && (asc ((ks.map PyData.int).map toI) && meets (spansOf p i) ((ks.map PyData.int).map toI))) = _
  rw [all_isInt, map_toI, Bool.true_and]
theorem meeting_less {p : Plan} (hp : p.Ok) {i : Int} (hi : InObj p i) {j : Nat} (hj : j < loansOf p i) : areMeeting p i (eT (less (meetingWeeks p i) j)) = false := by
  rw [areMeeting_row, Bool.and_eq_false_iff]
  right
  rw [← Bool.not_eq_true]
  intro h
  have := loans_least hp hi h
  obtain ⟨h1, _⟩ := meeting_is hp hi
  have h2 := less_len (s := meetingWeeks p i) (i := j) (by omega)
  omega
/-- good wishes for an object lie apart -/
theorem good_loans {p : Plan} (hp : p.Ok) {s : List Int} (hs : SomeOk p s) (hg : good p s = true) {i : Int} (hi : InObj p i) : (s.filter fun x => decide ((p.wish x).item = i)).length ≤ loansOf p i := by
  have hf := ((areGood_iff hp (hs.gw hp)).mp ((good_eq hp hs).trans hg)).rest
  unfold named at hf
  rw [List.pairwise_map] at hf
  have h1 : ((s.filter fun x => decide ((p.wish x).item = i)).map fun x => ((p.wish x).first, (p.wish x).last + (p.obj i).rest)).length ≤ (endsMet (spansOf p i)).length := by
    refine apart_most (spans_srtd hp hi) (fun t ht => ?_) ?_
    · obtain ⟨x, hx, rfl⟩ := List.mem_map.mp ht
      obtain ⟨h1, h2⟩ := List.mem_filter.mp hx
      exact mem_spans.mpr ⟨p.wish x, p.wish_mem (hs.lo x h1) (hs.hi x h1), of_decide_eq_true h2, rfl⟩
    · unfold Aprt
      rw [List.pairwise_map]
      have hm : ∀ x ∈ s.filter fun x => decide ((p.wish x).item = i), (p.wish x).item = i := fun x hx => of_decide_eq_true (List.mem_filter.mp hx).2
      refine (hf.sublist List.filter_sublist).imp_of_mem fun {a b} ha hb h => ?_
      have ia := hm a ha
      have ib := hm b hb
      unfold tiredB at h
      rw [ia, ib] at h
      simp only [decide_true, Bool.true_and, Bool.not_eq_false', doRest, Bool.or_eq_true, decide_eq_true_eq] at h
      show (p.wish a).last + _ < (p.wish b).first ∨ (p.wish b).last + _ < (p.wish a).first
      omega
  rw [List.length_map] at h1
  exact h1
/-! the first wish taken away; an object without rest -/
def tailP (p : Plan) : Plan := ⟨p.houses, p.objects, p.wishes.drop 1⟩
theorem tailP_ok {p : Plan} (hp : p.Ok) : (tailP p).Ok := by
  refine ⟨hp.h1, hp.h4, hp.hs, hp.o1, hp.o4, hp.os, ?_, fun w hw => ?_⟩
  · show (p.wishes.drop 1).length ≤ 8
    rw [List.length_drop]; have := hp.w8; omega
  · have h := hp.ws w (List.mem_of_mem_drop hw)
    exact ⟨h.h0, h.h1, h.i0, h.i1, h.ne, h.f0, h.fl, h.l1⟩
theorem tailP_spans {p : Plan} {i : Int} {s : Span} (h : s ∈ spansOf (tailP p) i) : s ∈ spansOf p i := by
  obtain ⟨w, hw, hi, e⟩ := mem_spans.mp h
  exact mem_spans.mpr ⟨w, List.mem_of_mem_drop hw, hi, e⟩
theorem tailP_loans {p : Plan} (hp : p.Ok) {i : Int} (hi : InObj p i) : loansOf (tailP p) i = loansOf p i ∨ loansOf (tailP p) i + 1 = loansOf p i := by
  have h1 : loansOf (tailP p) i ≤ loansOf p i := loans_hold hp (tailP_ok hp) hi hi fun s hs => ⟨s, tailP_spans hs, Int.le_refl _, Int.le_refl _⟩
  have h2 : loansOf p i ≤ loansOf (tailP p) i + 1 := by
    cases q : p.wishes with
    | nil =>
      have := loans_le p i
      rw [q] at this
      simp at this
      omega
    | cons v l =>
      have hv := hp.ws v (by rw [q]; exact List.mem_cons_self)
      refine loans_one (tailP_ok hp) hp hi hi (v.first, v.last + (p.obj i).rest) (by have := hv.fl; have := (hp.rest0 hi).1; show v.first ≤ v.last + _; omega) fun s hs => ?_
      obtain ⟨w, hw, e1, e2⟩ := mem_spans.mp hs
      rw [q] at hw
      rcases List.mem_cons.mp hw with e | e
      · left; rw [e2, e]
      · right
        exact mem_spans.mpr ⟨w, by show w ∈ p.wishes.drop 1; rw [q]; exact e, e1, e2⟩
  omega
def setO (p : Plan) (i : Nat) (o : Obj) : Plan := ⟨p.houses, p.objects.take i ++ [o] ++ p.objects.drop (i + 1), p.wishes⟩
theorem setO_len {p : Plan} {i : Nat} (hi : i < p.objects.length) (o : Obj) : (setO p i o).objects.length = p.objects.length := by
  show (p.objects.take i ++ [o] ++ p.objects.drop (i + 1)).length = _
  rw [List.length_append, List.length_append, List.length_take, List.length_drop, List.length_singleton]
  omega
theorem setO_obj {p : Plan} {i : Nat} (hi : i < p.objects.length) (o : Obj) (j : Int) (h0 : 0 ≤ j) : (setO p i o).obj j = if j = i then o else p.obj j := by
  obtain ⟨k, rfl⟩ : ∃ k : Nat, j = k := ⟨j.toNat, by omega⟩
  unfold Plan.obj setO
  rw [Int.toNat_natCast]
  simp only [List.getD]
  have hti : (p.objects.take i).length = i := by rw [List.length_take]; omega
  rcases Nat.lt_trichotomy k i with c | c | c
  · rw [if_neg (by omega), List.append_assoc, List.getElem?_append_left (by omega), List.getElem?_take_of_lt c]
  · subst c
    rw [if_pos rfl, List.append_assoc, List.getElem?_append_right (by omega), hti, Nat.sub_self]
    rfl
  · rw [if_neg (by omega), List.getElem?_append_right (by rw [List.length_append, hti, List.length_singleton]; omega), List.length_append, hti, List.length_singleton, List.getElem?_drop]
    congr 3
    omega
theorem setO_ok {p : Plan} (hp : p.Ok) {i : Nat} (hi : i < p.objects.length) {o : Obj} (ho : o.Ok p.houses.length) (hh : o.home = (p.obj i).home) : (setO p i o).Ok := by
  have l := setO_len hi o
  refine ⟨hp.h1, hp.h4, hp.hs, by rw [l]; exact hp.o1, by rw [l]; exact hp.o4, fun x hx => ?_, hp.w8, fun w hw => ?_⟩
  · rcases List.mem_append.mp hx with hx | hx
    · rcases List.mem_append.mp hx with hx | hx
      · exact hp.os x (List.mem_of_mem_take hx)
      · rw [List.mem_singleton.mp hx]; exact ho
    · exact hp.os x (List.mem_of_mem_drop hx)
  · have h := hp.ws w hw
    refine ⟨h.h0, h.h1, h.i0, by rw [l]; exact h.i1, ?_, h.f0, h.fl, h.l1⟩
    rw [setO_obj hi o _ h.i0]
    by_cases c : w.item = i
    · rw [if_pos c, hh, ← c]; exact h.ne
    · rw [if_neg c]; exact h.ne
def quickO (o : Obj) : Obj := ⟨o.home, o.value, 0, o.light⟩
def quickP (p : Plan) (i : Nat) : Plan := setO p i (quickO (p.obj i))
theorem quickP_ok {p : Plan} (hp : p.Ok) {i : Nat} (hi : i < p.objects.length) : (quickP p i).Ok := by
  have h := hp.os _ (p.obj_mem (i := (i : Int)) (by omega) (by omega))
  exact setO_ok hp hi ⟨h.h0, h.h1, h.v0, h.v1, by show (0 : Int) ≤ 0; omega, by show (0 : Int) ≤ 9; omega, h.l0, h.l1⟩ rfl
theorem quickP_in {p : Plan} {i : Nat} (hi : i < p.objects.length) : InObj (quickP p i) i := by
  refine ⟨by omega, ?_⟩
  show (i : Int) < ((setO p i _).objects.length : Nat)
  rw [setO_len hi]; omega
theorem quickP_loans {p : Plan} (hp : p.Ok) {i : Nat} (hi : i < p.objects.length) : loansOf p i ≤ loansOf (quickP p i) i := by
  have ip : InObj p i := ⟨by omega, by omega⟩
  refine loans_hold (quickP_ok hp hi) hp (quickP_in hi) ip fun s hs => ?_
  obtain ⟨w, hw, e, rfl⟩ := mem_spans.mp hs
  refine ⟨(w.first, w.last + ((quickP p i).obj i).rest), mem_spans.mpr ⟨w, hw, e, rfl⟩, Int.le_refl _, ?_⟩
  show w.last + ((setO p i _).obj i).rest ≤ w.last + (p.obj i).rest
  rw [setO_obj hi _ _ (by omega), if_pos rfl]
  have := (hp.rest0 ip).1
  show w.last + 0 ≤ _
  omega
/-! ## journeys -/
def wLt (a b : Wish) : Bool := if a.first = b.first then decide ([a.house, a.item, a.first, a.last] < [b.house, b.item, b.first, b.last]) else decide (a.first < b.first)
def sortW (l : List Wish) : List Wish := l.mergeSort fun a b => !wLt b a
theorem sortW_perm (l : List Wish) : (sortW l).Perm l := List.mergeSort_perm ..
theorem sortW_nil : sortW [] = [] := List.eq_nil_of_length_eq_zero (sortW_perm []).length_eq
def tripStep (wait : Int) (a b : Wish) : Int := if wait < b.first - a.last - 1 then 2 else if b.house = a.house then 0 else 1
def tripsOn (wait : Int) : List Wish → Int
  | a :: b :: l => tripStep wait a b + tripsOn wait (b :: l)
  | _ => 0
def trips (l : List Wish) (wait : Int) : Int := if l.isEmpty then 0 else 2 + tripsOn wait l
theorem trips_zip (wait : Int) : ∀ l : List Wish, ((l.zip (l.drop 1)).map fun x => tripStep wait x.1 x.2).sum = tripsOn wait l
  | [] => rfl
  | [_] => rfl
  | a :: b :: r => by
    have ih := trips_zip wait (b :: r)
    simp only [List.drop_succ_cons, List.drop_zero] at ih ⊢
    rw [List.zip_cons_cons, List.map_cons, List.sum_cons, ih]
    rfl
def itemW (p : Plan) (s : List Int) (i : Int) : List Wish := (named p s).filter fun w => decide (w.item = i)
def itemTrips (p : Plan) (s : List Int) (wait i : Int) : Int := trips (sortW (itemW p s i)) wait
def journeysN (p : Plan) (s : List Int) (wait : Int) (n : Nat) : Int := ((rangeD 0 n).map (itemTrips p s wait)).sum
def journeysOf (p : Plan) (s : List Int) (wait : Int) : Int := journeysN p s wait p.objects.length
theorem journeysN_succ (p : Plan) (s : List Int) (wait : Int) (n : Nat) : journeysN p s wait (n + 1) = journeysN p s wait n + itemTrips p s wait n := by
  unfold journeysN
  rw [rangeD_succ, List.map_append, List.sum_append]
  simp
theorem tripStep_le (wait : Int) (a b : Wish) : 0 ≤ tripStep wait a b ∧ tripStep wait a b ≤ 2 := by
  unfold tripStep
  split
  · omega
  · split <;> omega
theorem tripsOn_le (wait : Int) : ∀ (l : List Wish), 0 ≤ tripsOn wait l ∧ (l ≠ [] → tripsOn wait l + 2 ≤ 2 * l.length)
  | [] => ⟨Int.le_refl _, fun h => absurd rfl h⟩
  | [a] => ⟨Int.le_refl _, fun _ => by simp [tripsOn]⟩
  | a :: b :: l => by
    obtain ⟨h1, h2⟩ := tripsOn_le wait (b :: l)
    have h3 := h2 (by simp)
    have h4 := tripStep_le wait a b
    have e : tripsOn wait (a :: b :: l) = tripStep wait a b + tripsOn wait (b :: l) := rfl
    rw [e]
    rw [List.length_cons] at h3
    refine ⟨by omega, fun _ => ?_⟩
    rw [List.length_cons, List.length_cons]
    omega
theorem trips_le (l : List Wish) (wait : Int) : trips l wait ≤ 2 * l.length ∧ 0 ≤ trips l wait ∧ (l ≠ [] → 2 ≤ trips l wait) := by
  unfold trips
  cases l with
  | nil => exact ⟨Int.le_refl _, Int.le_refl _, fun h => absurd rfl h⟩
  | cons a l =>
    obtain ⟨h1, h2⟩ := tripsOn_le wait (a :: l)
    have := h2 (by simp)
    rw [if_neg (by simp)]
    exact ⟨by omega, by omega, fun _ => by omega⟩
theorem tripsOn_wait (wait : Int) : ∀ l : List Wish, tripsOn (wait + 1) l ≤ tripsOn wait l
  | [] => Int.le_refl _
  | [_] => Int.le_refl _
  | a :: b :: l => by
    have ih := tripsOn_wait wait (b :: l)
    have e : tripStep (wait + 1) a b ≤ tripStep wait a b := by
      unfold tripStep
      split
      · rw [if_pos (by omega)]; omega
      · split
        · split <;> omega
        · split <;> omega
    show tripStep (wait + 1) a b + _ ≤ tripStep wait a b + _
    omega
theorem trips_wait (wait : Int) (l : List Wish) : trips l (wait + 1) ≤ trips l wait := by
  unfold trips
  have := tripsOn_wait wait l
  split <;> omega
theorem sum_map_le {α : Type} (f g : α → Int) (h : ∀ x, f x ≤ g x) : ∀ l : List α, (l.map f).sum ≤ (l.map g).sum
  | [] => Int.le_refl _
  | a :: l => by
    have := sum_map_le f g h l
    have := h a
    rw [List.map_cons, List.map_cons, List.sum_cons, List.sum_cons]; omega
theorem journeys_wait (p : Plan) (s : List Int) (wait : Int) : journeysOf p s (wait + 1) ≤ journeysOf p s wait := sum_map_le _ _ (fun i => trips_wait wait _) _
theorem sortW_len (l : List Wish) : (sortW l).length = l.length := (sortW_perm l).length_eq
/-- every wish is for one of the objects -/
theorem item_sum : ∀ (ws : List Wish) (n : Nat), (∀ w ∈ ws, 0 ≤ w.item ∧ w.item < n) → ((rangeD 0 n).map fun i => (((ws.filter fun w => decide (w.item = i)).length : Nat) : Int)).sum = ws.length
  | [], n, _ => by
    have : ∀ l : List Int, (l.map fun i => ((([] : List Wish).filter fun w => decide (w.item = i)).length : Int)).sum = 0 := fun l => by
      induction l with
      | nil => rfl
      | cons a l ih => rw [List.map_cons, List.sum_cons, ih]; rfl
    exact this _
  | w :: ws, n, h => by
    have ih := item_sum ws n fun v hv => h v (List.mem_cons_of_mem _ hv)
    obtain ⟨h0, h1⟩ := h w List.mem_cons_self
    have step : ∀ l : List Int, l.Nodup → (l.map fun i => (((w :: ws).filter fun w => decide (w.item = i)).length : Int)).sum = (l.map fun i => ((ws.filter fun w => decide (w.item = i)).length : Int)).sum + if w.item ∈ l then 1 else 0 := by
      intro l
      induction l with
      | nil => intro _; rfl
      | cons a l ihl =>
        intro hn
        obtain ⟨n1, n2⟩ := List.nodup_cons.mp hn
        rw [List.map_cons, List.map_cons, List.sum_cons, List.sum_cons, ihl n2]
        by_cases c : w.item = a
        · rw [List.filter_cons_of_pos (by simpa using c), List.length_cons, if_neg (by rw [c]; exact n1), if_pos (by rw [c]; exact List.mem_cons_self)]
          omega
        · rw [List.filter_cons_of_neg (by simpa using c)]
          by_cases d : w.item ∈ l
          · rw [if_pos d, if_pos (List.mem_cons_of_mem _ d)]; omega
          · rw [if_neg d, if_neg (by simp [c, d])]; omega
    have nd : (rangeD 0 n).Nodup := (asc_range 0 n).imp fun h => by omega
    rw [step _ nd, ih, if_pos (rangeD_mem.mpr ⟨h0, by omega⟩), List.length_cons]
    omega
theorem journeys_le {p : Plan} {s : List Int} (hp : p.Ok) (hs : SomeOk p s) (wait : Int) : journeysOf p s wait ≤ 2 * s.length := by
  have h1 : journeysOf p s wait ≤ ((rangeD 0 p.objects.length).map fun i => 2 * (((itemW p s i).length : Nat) : Int)).sum := sum_map_le _ _ (fun i => by
    have := (trips_le (sortW (itemW p s i)) wait).1
    rw [sortW_len] at this
    exact this) _
  have h2 : ∀ l : List Int, (l.map fun i => 2 * (((itemW p s i).length : Nat) : Int)).sum = 2 * (l.map fun i => (((itemW p s i).length : Nat) : Int)).sum := fun l => by
    induction l with
    | nil => rfl
    | cons a l ih => rw [List.map_cons, List.map_cons, List.sum_cons, List.sum_cons, ih]; omega
  have h3 := item_sum (named p s) p.objects.length fun w hw => (hs.wsok hp).it w hw
  have h4 : (named p s).length = s.length := by unfold named; rw [List.length_map]
  rw [h2] at h1
  have h5 : ((rangeD 0 p.objects.length).map fun i => (((itemW p s i).length : Nat) : Int)).sum = s.length := by rw [← h4]; exact h3
  omega
theorem sum_nonneg' {α : Type} (f : α → Int) (h : ∀ x, 0 ≤ f x) {l : List α} {a : α} (ha : a ∈ l) : f a ≤ (l.map f).sum := by
  induction l with
  | nil => cases ha
  | cons b l ih =>
    rw [List.map_cons, List.sum_cons]
    have pos : ∀ l : List α, 0 ≤ (l.map f).sum := fun l => by
      induction l with
      | nil => exact Int.le_refl _
      | cons c l ih => rw [List.map_cons, List.sum_cons]; have := h c; omega
    rcases List.mem_cons.mp ha with e | e
    · subst e; have := pos l; omega
    · have := ih e; have := h b; omega
theorem journeys_ge {p : Plan} {s : List Int} (hp : p.Ok) (hs : SomeOk p s) (wait : Int) (h : s ≠ []) : 2 ≤ journeysOf p s wait := by
  cases s with
  | nil => exact absurd rfl h
  | cons x l =>
    have hx := (hs.wsok hp).it (p.wish x) List.mem_cons_self
    have h1 : itemTrips p (x :: l) wait (p.wish x).item ≤ journeysOf p (x :: l) wait := sum_nonneg' (itemTrips p (x :: l) wait) (fun i => (trips_le _ wait).2.1) (rangeD_mem.mpr ⟨hx.1, by omega⟩)
    have h2 : 2 ≤ itemTrips p (x :: l) wait (p.wish x).item := (trips_le _ wait).2.2 fun e => by
      have : p.wish x ∈ sortW (itemW p (x :: l) (p.wish x).item) := (sortW_perm _).mem_iff.mpr (List.mem_filter.mpr ⟨List.mem_cons_self, decide_eq_true rfl⟩)
      rw [e] at this; cases this
    omega
theorem journeys_nil (p : Plan) (wait : Int) : journeysOf p [] wait = 0 := by
  have : ∀ l : List Int, (l.map (itemTrips p [] wait)).sum = 0 := fun l => by
    induction l with
    | nil => rfl
    | cons a l ih =>
      rw [List.map_cons, List.sum_cons, ih]
      show trips (sortW []) wait + 0 = 0
      rw [sortW_nil]; rfl
  exact this _
theorem journeys_one {p : Plan} (hp : p.Ok) {x : Int} (hs : SomeOk p [x]) (wait : Int) : journeysOf p [x] wait = 2 := by
  have h1 := journeys_le hp hs wait
  have h2 := journeys_ge hp hs wait (by simp)
  simp at h1
  omega
/-- only the wishes for one object -/
def partOf (p : Plan) (s : List Int) (i : Int) : List Int := s.filter fun x => decide ((p.wish x).item = i)
theorem part_item {p : Plan} {s : List Int} {i j : Int} : itemW p (partOf p s i) j = if j = i then itemW p s i else [] := by
  unfold itemW partOf named
  rw [filter_map', filter_map', List.filter_filter]
  by_cases c : j = i
  · rw [if_pos c, c]
    congr 1
    refine List.filter_congr fun x _ => ?_
    simp [Function.comp]
  · rw [if_neg c]
    rw [List.filter_eq_nil_iff.mpr]
    · rfl
    · intro x _
      simp only [Function.comp, Bool.and_eq_true, decide_eq_true_eq]
      omega
theorem journeys_part {p : Plan} {s : List Int} {i : Int} (hi : InObj p i) (wait : Int) : journeysOf p (partOf p s i) wait = itemTrips p s wait i := by
  have h : ∀ l : List Int, l.Nodup → (l.map (itemTrips p (partOf p s i) wait)).sum = if i ∈ l then itemTrips p s wait i else 0 := by
    intro l
    induction l with
    | nil => intro _; rfl
    | cons a l ih =>
      intro hn
      obtain ⟨n1, n2⟩ := List.nodup_cons.mp hn
      rw [List.map_cons, List.sum_cons, ih n2]
      have e : itemTrips p (partOf p s i) wait a = if a = i then itemTrips p s wait i else 0 := by
        unfold itemTrips
        rw [part_item]
        by_cases c : a = i
        · rw [if_pos c, if_pos c]
        · rw [if_neg c, if_neg c, sortW_nil]; rfl
      rw [e]
      by_cases c : a = i
      · rw [if_pos c, if_neg (by rw [← c]; exact n1), if_pos (by rw [c]; exact List.mem_cons_self)]; omega
      · rw [if_neg c]
        by_cases d : i ∈ l
        · rw [if_pos d, if_pos (List.mem_cons_of_mem _ d)]; omega
        · rw [if_neg d, if_neg (by simp [d, Ne.symm c])]; rfl
  have nd : (rangeD 0 p.objects.length).Nodup := (asc_range 0 _).imp fun h => by omega
  exact (h _ nd).trans (if_pos (rangeD_mem.mpr ⟨hi.1, by have := hi.2; omega⟩))
theorem part_some {p : Plan} {s : List Int} (hp : p.Ok) (hs : SomeOk p s) (hg : good p s = true) (i : Int) : SomeOk p (partOf p s i) ∧ good p (partOf p s i) = true :=
  ⟨hs.sub List.filter_sublist, good_sub hp hs List.filter_sublist hg⟩
theorem journeys_parts (p : Plan) (s : List Int) (wait : Int) : ((rangeD 0 p.objects.length).map fun i => journeysOf p (partOf p s i) wait).sum = journeysOf p s wait := by
  unfold journeysOf journeysN
  congr 1
  refine List.map_congr_left fun i hi => ?_
  have := rangeD_mem.mp hi
  exact journeys_part ⟨this.1, by omega⟩ wait
/-! data -/
abbrev eFW (w : Wish) : PyData := .tuple [.int w.first, eW w]
abbrev eLP (l : List (Int × Int)) : PyData := .list (l.map eII)
theorem lt_pair (a b : Int × Int) : PySem.W.dataLt (eII a) (eII b) = pairLt a b := by
  have h := lt_row [a.1, a.2] [b.1, b.2]
  refine h.trans ?_
  unfold pairLt
  rw [Bool.eq_iff_iff]
  simp [List.cons_lt_cons_iff]
theorem lt_fw (a b : Wish) : PySem.W.dataLt (eFW a) (eFW b) = wLt a b := by
  show PySem.W.dataLt (.tuple [.int a.first, rowD [a.house, a.item, a.first, a.last]]) (.tuple [.int b.first, rowD [b.house, b.item, b.first, b.last]]) = _
  rw [PySem.W.dataLt_pair (by simp [PySem.W.alike]) (alike_row _ _), eqv_row, lt_row, PySem.W.dataLt_int]
  unfold wLt
  by_cases e : a.first = b.first
  · rw [if_pos (by simp [PyData.eqv, e]), if_pos e]
    by_cases e2 : [a.house, a.item, a.first, a.last] = [b.house, b.item, b.first, b.last]
    · rw [if_pos (by simpa using e2), e2]; simp [List.lt_irrefl]
    · rw [if_neg (by simpa using e2)]
  · rw [if_neg (by simp [PyData.eqv]; omega), if_neg e]
theorem srt_pairs (l : List (Int × Int)) : Srt (l.map eII) := srt_enc eII (fun a => ⟨_, _, rfl⟩) (fun a b => alike_row [a.1, a.2] [b.1, b.2]) (fun a => by have := depth_row [a.1, a.2]; exact Nat.le_trans this (by decide)) l
theorem srt_fw (l : List Wish) : Srt (l.map eFW) := srt_enc eFW (fun a => ⟨_, _, rfl⟩) (fun a b => by
  have := alike_row [a.house, a.item, a.first, a.last] [b.house, b.item, b.first, b.last]
  simp only [PySem.W.alike, PySem.W.alikeAll] at this ⊢
  simp [this]) (fun a => by
  simp [PyData.depth, PyData.depthAll]) l
theorem sort_pairs (l : List (Int × Int)) : sortD (l.map eII) = (sortP l).map eII := sort_enc eII pairLt lt_pair l
theorem sort_fw (l : List Wish) : sortD (l.map eFW) = (sortW l).map eFW := sort_enc eFW wLt lt_fw l
theorem en_fw : En eFW 2 := ⟨fun w => shp_tuple (n := 1) fun d hd => by
    simp only [List.mem_cons, List.not_mem_nil, or_false] at hd
    rcases hd with h | h
    · rw [h]; exact (shp_int _).mono (by decide)
    · rw [h]; exact en_wish.shp w, fun a b => by
    simp only [PyData.eqv, PyData.eqvAll]
    have h := en_wish.eq a b
    simp only [PyData.eqv, PyData.eqvAll] at h
    rw [h, Bool.eq_iff_iff]
    simp
    intro e; rw [e]⟩
theorem find_at {q : Int → Bool} : ∀ {l : List Int} {i : Nat} {x : Int}, l[i]? = some x → q x = true → (∀ j, j < i → ∀ y, l[j]? = some y → q y = false) → l.find? q = some x
  | [], i, x, h, _, _ => by simp at h
  | a :: l, 0, x, h, hq, _ => by
    have e : a = x := by simpa using h
    subst e
    rw [List.find?_cons_of_pos hq]
  | a :: l, i + 1, x, h, hq, hn => by
    have h0 := hn 0 (by omega) a rfl
    rw [List.find?_cons_of_neg (by rw [h0]; exact Bool.false_ne_true)]
    exact find_at (i := i) (by simpa using h) hq fun j hj y hy => hn (j + 1) (by omega) y (by simpa using hy)
theorem ints_of_all {ds : List PyData} (h : ds.all isIntD = true) : ∃ ks : List Int, ds = ks.map PyData.int := by
  induction ds with
  | nil => exact ⟨[], rfl⟩
  | cons d ds ih =>
    rw [List.all_cons, Bool.and_eq_true] at h
    obtain ⟨ks, e⟩ := ih h.2
    have h1 := h.1
    cases d with
    | int k => exact ⟨k :: ks, by rw [List.map_cons, e]⟩
    | _ => simp [isIntD, PL.isInt, isBool] at h1
/-! contracts: single.py -/
def c_spans_of : Ct := ⟨Plan × Int, fun a => [eP a.1, .int a.2], fun a => a.1.Ok ∧ InObj a.1 a.2, fun a => Eq (eLP (spansOf a.1 a.2))⟩
def c_check_item : Ct := ⟨Plan × Int, fun a => [eP a.1, .int a.2], fun a => a.1.Ok ∧ InObj a.1 a.2, fun _ => Eq .none⟩
def c_ends_met : Ct := ⟨List Span, fun l => [eLP l], fun l => l.length ≤ 100, fun l => Eq (.list ((endsMet l).map PyData.int))⟩
def c_loans_of : Ct := ⟨Plan × Int, fun a => [eP a.1, .int a.2], fun a => a.1.Ok ∧ InObj a.1 a.2, fun a => Eq (.int (loansOf a.1 a.2 : Nat))⟩
def c_do_meet : Ct := ⟨List Span × List Int, fun a => [eLP a.1, eT a.2], fun _ => True, fun a => Eq (.bool (meets a.1 a.2))⟩
def c_first_weeks : Ct := ⟨List Span, fun l => [eLP l], fun l => Srtd l ∧ l.length ≤ 100 ∧ ∀ s ∈ l, 0 ≤ s.1 ∧ s.2 ≤ 100, fun l => Eq (eT (firstWeeks l))⟩
def c_meeting_weeks : Ct := ⟨Plan × Int, fun a => [eP a.1, .int a.2], fun a => a.1.Ok ∧ InObj a.1 a.2, fun a => Eq (eT (meetingWeeks a.1 a.2))⟩
def c_are_meeting_weeks : Ct := ⟨Plan × Int × PyData, fun a => [eP a.1, .int a.2.1, a.2.2], fun a => a.1.Ok ∧ InObj a.1 a.2.1, fun a => Eq (.bool (areMeeting a.1 a.2.1 a.2.2))⟩
def c_trips : Ct := ⟨List Wish × Int, fun a => [eLW a.1, .int a.2], fun a => a.1.length ≤ 100, fun a => Eq (.int (trips a.1 a.2))⟩
def c_journeys : Ct := ⟨Plan × List Int × Int, fun a => [eP a.1, eT a.2.1, .int a.2.2], fun a => a.1.Ok ∧ SomeOk a.1 a.2.1 ∧ (0 ≤ a.2.2 ∧ a.2.2 ≤ 60) ∧ good a.1 a.2.1 = true, fun a => Eq (.int (journeysOf a.1 a.2.1 a.2.2))⟩
def c_law_object : Ct := ⟨Plan × Nat, fun a => [eP a.1, .int a.2], fun a => a.1.Ok ∧ a.2 < a.1.objects.length, fun _ => Eq (.bool true)⟩
end Mus

namespace Mus
open PySem PySem.Spec PyProof.Rows L2 PL
/-! ## mirrors: limits.py -/
def maxI : List Int → Int
  | [] => 0
  | a :: l => l.foldl (fun m x => if m < x then x else m) a
theorem foldl_maxI : ∀ (l : List Int) (a : Int), a ≤ (l.foldl (fun m x => if m < x then x else m) a) ∧ (∀ x ∈ l, x ≤ (l.foldl (fun m x => if m < x then x else m) a)) ∧ (l.foldl (fun m x => if m < x then x else m) a ∈ a :: l)
  | [], a => ⟨Int.le_refl _, by simp, List.mem_cons_self⟩
  | b :: l, a => by
    obtain ⟨h1, h2, h3⟩ := foldl_maxI l (if a < b then b else a)
    rw [List.foldl_cons]
    refine ⟨?_, fun x hx => ?_, ?_⟩
    · split at h1 <;> rename_i c
      · rw [if_pos c]; omega
      · rw [if_neg c]; exact h1
    · rcases List.mem_cons.mp hx with e | e
      · subst e
        split at h1 <;> rename_i c
        · rw [if_pos c]; exact h1
        · rw [if_neg c]; omega
      · exact h2 x e
    · rcases List.mem_cons.mp h3 with e | e
      · rw [e]
        by_cases c : a < b
        · rw [if_pos c]; exact List.mem_cons_of_mem _ List.mem_cons_self
        · rw [if_neg c]; exact List.mem_cons_self
      · exact List.mem_cons_of_mem _ (List.mem_cons_of_mem _ e)
theorem maxI_ge {l : List Int} {x : Int} (h : x ∈ l) : x ≤ maxI l := by
  cases l with
  | nil => cases h
  | cons a l =>
    rcases List.mem_cons.mp h with e | e
    · rw [e]; exact (foldl_maxI l a).1
    · exact (foldl_maxI l a).2.1 x e
theorem maxI_mem {l : List Int} (h : l ≠ []) : maxI l ∈ l := by
  cases l with
  | nil => exact absurd rfl h
  | cons a l => exact (foldl_maxI l a).2.2
def newW (h i weeks k : Int) : Wish := ⟨h, i, k, k + weeks - 1⟩
def fitsAt (p : Plan) (s : List Int) (h i weeks k : Int) : Bool := areGood p (named p s ++ [newW h i weeks k])
def fwR (weeks begin_ : Int) : List Int := rangeD begin_ (62 - weeks - begin_).toNat
def firstWeek (p : Plan) (s : List Int) (h i weeks begin_ : Int) : Option Int := (fwR weeks begin_).find? (fitsAt p s h i weeks)
def leastLimit (p : Plan) (s : List Int) (h : Int) : Int := maxI ((rangeD 0 61).map fun k => valueAt p (named p s) h k)
def leastLight (p : Plan) (s : List Int) (i : Int) : Int := weeksOf (named p s) i
def restsBetween (r : Int) : List Wish → Bool
  | [] => true
  | a :: l => l.all (fun b => doRest a b r) && restsBetween r l
def restsOk (p : Plan) (s : List Int) (i : Int) : List Int := (rangeD 0 10).filter fun r => restsBetween r (itemW p s i)
def mostRest (p : Plan) (s : List Int) (i : Int) : Option Int := if (restsOk p s i).isEmpty then none else some (maxI (restsOk p s i))
theorem limit_ge (p : Plan) (s : List Int) (h : Int) {k : Int} (h0 : 0 ≤ k) (h1 : k ≤ 60) : valueAt p (named p s) h k ≤ leastLimit p s h := maxI_ge (List.mem_map.mpr ⟨k, rangeD_mem.mpr (by omega), rfl⟩)
theorem limit_at (p : Plan) (s : List Int) (h : Int) : ∃ k, 0 ≤ k ∧ k ≤ 60 ∧ valueAt p (named p s) h k = leastLimit p s h := by
  obtain ⟨k, hk, e⟩ := List.mem_map.mp (maxI_mem (l := (rangeD 0 61).map fun k => valueAt p (named p s) h k) (fun z => by
    have := congrArg List.length z
    rw [List.length_map, rangeD_len] at this
    cases this))
  have := rangeD_mem.mp hk
  exact ⟨k, this.1, by omega, e⟩
theorem value_nonneg {p : Plan} {ws : List Wish} (hp : p.Ok) (hw : ∀ w ∈ ws, 0 ≤ w.item ∧ w.item < p.objects.length) (h k : Int) : 0 ≤ valueAt p ws h k := by
  unfold valueAt
  have : ∀ l : List Wish, (∀ w ∈ l, 0 ≤ w.item ∧ w.item < p.objects.length) → 0 ≤ (l.map fun w => (p.obj w.item).value).sum := fun l => by
    induction l with
    | nil => intro _; exact Int.le_refl _
    | cons a l ih =>
      intro hl
      rw [List.map_cons, List.sum_cons]
      have h1 := ih fun w hw => hl w (List.mem_cons_of_mem _ hw)
      have h2 := hl a List.mem_cons_self
      have h3 := (hp.os _ (p.obj_mem h2.1 h2.2)).v0
      omega
  exact this _ fun w hw' => hw w (List.mem_filter.mp hw').1
theorem limit_nonneg {p : Plan} {s : List Int} (hp : p.Ok) (hs : SomeOk p s) (h : Int) : 0 ≤ leastLimit p s h :=
  Int.le_trans (value_nonneg hp (hs.wsok hp).it h 0) (limit_ge p s h (Int.le_refl _) (by decide))
theorem rests_iff {r : Int} {l : List Wish} : restsBetween r l = true ↔ l.Pairwise fun a b => doRest a b r = true := by
  induction l with
  | nil => simp [restsBetween]
  | cons a l ih =>
    unfold restsBetween
    rw [Bool.and_eq_true, List.all_eq_true, ih, List.pairwise_cons]
theorem rests_mono {r t : Int} (h : r ≤ t) {l : List Wish} (k : restsBetween t l = true) : restsBetween r l = true := by
  rw [rests_iff] at k ⊢
  refine k.imp fun {a b} h => ?_
  simp only [doRest, Bool.or_eq_true, decide_eq_true_eq] at h ⊢
  omega
/-- is a rest worn: is it more than the most that is kept -/
def worn (p : Plan) (s : List Int) (i r : Int) : Bool := match mostRest p s i with
  | none => true
  | some m => decide (m < r)
theorem worn_iff {p : Plan} {s : List Int} {i r : Int} (h0 : 0 ≤ r) (h9 : r ≤ 9) : worn p s i r = !restsBetween r (itemW p s i) := by
  unfold worn mostRest
  by_cases c : (restsOk p s i).isEmpty = true
  · rw [if_pos c]
    have : r ∉ restsOk p s i := by rw [List.isEmpty_iff.mp c]; simp
    unfold restsOk at this
    rw [List.mem_filter, rangeD_mem] at this
    cases q : restsBetween r (itemW p s i) with
    | false => rfl
    | true => exact absurd ⟨by omega, q⟩ this
  · rw [if_neg c]
    have ne : restsOk p s i ≠ [] := fun z => c (by rw [z]; rfl)
    have hm := maxI_mem ne
    unfold restsOk at hm
    obtain ⟨m1, m2⟩ := List.mem_filter.mp hm
    show decide (maxI (restsOk p s i) < r) = _
    rw [Bool.eq_iff_iff, decide_eq_true_iff, Bool.not_eq_true']
    constructor
    · intro h
      rw [← Bool.not_eq_true]
      intro q
      have : r ∈ restsOk p s i := List.mem_filter.mpr ⟨rangeD_mem.mpr (by omega), q⟩
      have := maxI_ge this
      omega
    · intro q
      refine Int.not_le.mp fun h => ?_
      have := rests_mono h m2
      rw [q] at this; cases this
theorem pair_sub {α : Type} {R : α → α → Prop} {l : List α} : l.Pairwise R ↔ ∀ a b, [a, b].Sublist l → R a b := by
  exact ⟨fun h a b k => List.pairwise_iff_forall_sublist.mp h k, fun h => List.pairwise_iff_forall_sublist.mpr fun {a b} k => h a b k⟩
theorem items_rest {p : Plan} {ws : List Wish} (hw : ∀ w ∈ ws, 0 ≤ w.item ∧ w.item < p.objects.length) : (∀ i : Int, 0 ≤ i → i < p.objects.length → restsBetween (p.obj i).rest (ws.filter fun w => decide (w.item = i)) = true) ↔ ws.Pairwise fun a b => tiredB p a b = false := by
  constructor
  · intro h
    rw [pair_sub]
    intro a b k
    unfold tiredB
    by_cases c : a.item = b.item
    · have ha := hw a (k.subset List.mem_cons_self)
      have h1 := rests_iff.mp (h a.item ha.1 ha.2)
      rw [pair_sub] at h1
      have k2 := k.filter fun w => decide (w.item = a.item)
      rw [List.filter_cons_of_pos (by simp), List.filter_cons_of_pos (by simp [c])] at k2
      rw [h1 a b k2, decide_eq_true c]; rfl
    · rw [decide_eq_false c]; rfl
  · intro h i _ _
    rw [rests_iff]
    refine (h.sublist List.filter_sublist).imp_of_mem fun {a b} ha hb q => ?_
    have ia := of_decide_eq_true (List.mem_filter.mp ha).2
    have ib := of_decide_eq_true (List.mem_filter.mp hb).2
    unfold tiredB at q
    rw [ia, ib] at q
    simpa using q
/-! which kinds of reasons there are -/
def fullL (p : Plan) (s : List Int) : List Int := (p.houses.zipIdx.filter fun x => decide (x.1 < leastLimit p s x.2)).map fun x => (x.2 : Int)
def dullL (p : Plan) (s : List Int) : List Int := (p.objects.zipIdx.filter fun x => decide (x.1.light < leastLight p s x.2)).map fun x => (x.2 : Int)
def wornN (p : Plan) (s : List Int) (n : Nat) : List Int := ((p.objects.zipIdx.take n).filter fun x => worn p s x.2 x.1.rest).map fun x => (x.2 : Int)
theorem any_app {α : Type} (q : α → Bool) (a b : List α) : (a ++ b).any q = (a.any q || b.any q) := List.any_append
theorem any_const {α β : Type} (f : α → β) (q : β → Bool) (c : Bool) (h : ∀ x, q (f x) = c) : ∀ l : List α, (l.map f).any q = (c && !l.isEmpty)
  | [] => by simp
  | a :: l => by
    rw [List.map_cons, List.any_cons, h, any_const f q c h l]
    cases c <;> simp
theorem any_value (p : Plan) (s : List Int) : (reasonsOf p s).any isValue = !(crowded p (named p s)).isEmpty := by
  unfold reasonsOf
  rw [any_app, any_app, any_const _ isValue false (fun _ => rfl), any_const _ isValue false (fun _ => rfl), any_const _ isValue true (fun _ => rfl)]
  simp
theorem any_rest (p : Plan) (s : List Int) : (reasonsOf p s).any isRest = !(tired p (named p s)).isEmpty := by
  unfold reasonsOf
  rw [any_app, any_app, any_const _ isRest false (fun _ => rfl), any_const _ isRest true (fun _ => rfl), any_const _ isRest false (fun _ => rfl)]
  simp
theorem any_light (p : Plan) (s : List Int) : (reasonsOf p s).any isLight = !(bleached p (named p s)).isEmpty := by
  unfold reasonsOf
  rw [any_app, any_app, any_const _ isLight true (fun _ => rfl), any_const _ isLight false (fun _ => rfl), any_const _ isLight false (fun _ => rfl)]
  simp
theorem houses_zip {p : Plan} {x : Int × Nat} (h : x ∈ p.houses.zipIdx) : (0 ≤ (x.2 : Int) ∧ (x.2 : Int) < p.houses.length) ∧ p.lim x.2 = x.1 := by
  obtain ⟨i, hi⟩ := List.getElem?_of_mem h
  obtain ⟨h1, h2⟩ := zipIdx_get hi
  have hl := (List.getElem?_eq_some_iff.mp h1).1
  refine ⟨by omega, ?_⟩
  unfold Plan.lim
  rw [h2, Int.toNat_natCast, List.getD, h1]; rfl
theorem objects_zip {p : Plan} {x : Obj × Nat} (h : x ∈ p.objects.zipIdx) : (0 ≤ (x.2 : Int) ∧ (x.2 : Int) < p.objects.length) ∧ p.obj x.2 = x.1 := by
  obtain ⟨i, hi⟩ := List.getElem?_of_mem h
  obtain ⟨h1, h2⟩ := zipIdx_get hi
  have hl := (List.getElem?_eq_some_iff.mp h1).1
  refine ⟨by omega, ?_⟩
  unfold Plan.obj
  rw [h2, Int.toNat_natCast, List.getD, h1]; rfl
theorem zip_at {α : Type} {l : List α} {i : Int} (h0 : 0 ≤ i) (h1 : i < l.length) : ∃ a, (a, i.toNat) ∈ l.zipIdx := by
  have hl : i.toNat < l.length := by omega
  exact ⟨l[i.toNat], by rw [List.mem_zipIdx_iff_getElem?]; exact List.getElem?_eq_getElem hl⟩
theorem value_full (p : Plan) (s : List Int) : (reasonsOf p s).any isValue = !(fullL p s).isEmpty := by
  rw [any_value]
  congr 1
  rw [Bool.eq_iff_iff, crowded_nil]
  unfold fullL
  rw [List.isEmpty_map, List.isEmpty_iff, List.filter_eq_nil_iff]
  constructor
  · intro h x hx
    obtain ⟨hr, hl⟩ := houses_zip hx
    obtain ⟨k, k0, k1, e⟩ := limit_at p s x.2
    have := h x.2 k hr.1 hr.2 k0 k1
    rw [decide_eq_true_iff]
    omega
  · intro h a k a0 a1 k0 k1
    obtain ⟨v, hv⟩ := zip_at a0 a1
    have h1 := h _ hv
    obtain ⟨hr, hl⟩ := houses_zip hv
    have e : ((a.toNat : Nat) : Int) = a := by omega
    simp only [decide_eq_true_eq] at h1
    rw [show (((v, a.toNat).2 : Nat) : Int) = a from e] at hl h1
    have := limit_ge p s a k0 k1
    have e2 : (v, a.toNat).1 = v := rfl
    rw [e2] at hl
    omega
theorem light_dull (p : Plan) (s : List Int) : (reasonsOf p s).any isLight = !(dullL p s).isEmpty := by
  rw [any_light]
  congr 1
  rw [Bool.eq_iff_iff, bleached_nil]
  unfold dullL
  rw [List.isEmpty_map, List.isEmpty_iff, List.filter_eq_nil_iff]
  constructor
  · intro h x hx
    obtain ⟨hr, hl⟩ := objects_zip hx
    have := h x.2 hr.1 hr.2
    rw [decide_eq_true_iff, ← hl]
    show ¬ (_ < weeksOf (named p s) x.2)
    omega
  · intro h a a0 a1
    obtain ⟨v, hv⟩ := zip_at a0 a1
    have h1 := h _ hv
    obtain ⟨hr, hl⟩ := objects_zip hv
    have e : ((a.toNat : Nat) : Int) = a := by omega
    simp only [decide_eq_true_eq] at h1
    rw [show (((v, a.toNat).2 : Nat) : Int) = a from e] at hl h1
    have e2 : (v, a.toNat).1 = v := rfl
    rw [e2] at hl
    rw [hl]
    have : ¬ (v.light < weeksOf (named p s) a) := h1
    omega
theorem rest_worn {p : Plan} {s : List Int} (hp : p.Ok) (hs : SomeOk p s) : (reasonsOf p s).any isRest = !(wornN p s p.objects.length).isEmpty := by
  rw [any_rest]
  congr 1
  rw [Bool.eq_iff_iff, tired_nil, ← items_rest (hs.wsok hp).it]
  unfold wornN
  rw [List.isEmpty_map, List.isEmpty_iff, List.take_of_length_le (by rw [List.length_zipIdx]; exact Nat.le_refl _), List.filter_eq_nil_iff]
  have rb : ∀ i : Int, 0 ≤ i → i < p.objects.length → 0 ≤ (p.obj i).rest ∧ (p.obj i).rest ≤ 9 := fun i h0 h1 => hp.rest0 ⟨h0, h1⟩
  constructor
  · intro h x hx
    obtain ⟨hr, hl⟩ := objects_zip hx
    have h1 := h x.2 hr.1 hr.2
    have h2 := rb x.2 hr.1 hr.2
    rw [← hl, worn_iff h2.1 h2.2]
    show ¬ (!restsBetween (p.obj x.2).rest (itemW p s x.2)) = true
    unfold itemW
    rw [h1]
    exact Bool.false_ne_true
  · intro h a a0 a1
    obtain ⟨v, hv⟩ := zip_at a0 a1
    have h1 := h _ hv
    obtain ⟨hr, hl⟩ := objects_zip hv
    have e : ((a.toNat : Nat) : Int) = a := by omega
    rw [show (((v, a.toNat).2 : Nat) : Int) = a from e] at hl
    have e2 : (v, a.toNat).1 = v := rfl
    rw [e2] at hl
    have h2 := rb a a0 a1
    have h3 : ¬ worn p s a v.rest = true := by
      have : worn p s (((v, a.toNat).2 : Nat) : Int) (v, a.toNat).1.rest = worn p s a v.rest := by rw [show (((v, a.toNat).2 : Nat) : Int) = a from e]
      rw [← this]; exact h1
    rw [← hl, worn_iff h2.1 h2.2] at h3
    cases q : restsBetween (p.obj a).rest (itemW p s a) with
    | false => rw [q] at h3; exact absurd rfl h3
    | true => exact q
/-! other limits -/
def limP (p : Plan) (ls : List Int) : Plan := ⟨ls, p.objects, p.wishes⟩
theorem limP_ok {p : Plan} (hp : p.Ok) {ls : List Int} (hl : ls.length = p.houses.length) (hb : ∀ x ∈ ls, 0 ≤ x ∧ x ≤ 40) : (limP p ls).Ok := (two_lim hp hl hb).okq
theorem limP_some {p : Plan} {s : List Int} (hs : SomeOk p s) (ls : List Int) : SomeOk (limP p ls) s := ⟨hs.lo, hs.hi, hs.as⟩
def limL (p : Plan) (s : List Int) : List Int := (rangeD 0 p.houses.length).map fun h => leastLimit p s h
def capL (p : Plan) (s : List Int) : List Int := (rangeD 0 p.houses.length).map fun h => if (40 : Int) < leastLimit p s h then 40 else leastLimit p s h
theorem limL_len (p : Plan) (s : List Int) : (limL p s).length = p.houses.length := by unfold limL; rw [List.length_map, rangeD_len]
theorem limL_at {p : Plan} {s : List Int} {h : Nat} (hh : h < p.houses.length) : (limL p s)[h]? = some (leastLimit p s h) := by
  unfold limL
  rw [List.getElem?_map]
  have : (rangeD 0 p.houses.length)[h]? = some (h : Int) := by
    unfold rangeD
    rw [List.getElem?_map, List.getElem?_range hh]; simp
  rw [this]; rfl
theorem cap_bound {p : Plan} {s : List Int} (hp : p.Ok) (hs : SomeOk p s) (h : capL p s = limL p s) : ∀ x ∈ limL p s, 0 ≤ x ∧ x ≤ 40 := by
  intro x hx
  rw [← h] at hx
  obtain ⟨k, _, rfl⟩ := List.mem_map.mp hx
  have := limit_nonneg hp hs k
  split <;> omega
theorem lim_none {p : Plan} {s : List Int} : (reasonsOf (limP p (limL p s)) s).any isValue = false := by
  rw [any_value, Bool.not_eq_false', crowded_nil]
  intro h k h0 h1 k0 k1
  have hl : h.toNat < p.houses.length := by
    have : h < ((limL p s).length : Nat) := h1
    rw [limL_len] at this; omega
  have e : (limP p (limL p s)).lim h = leastLimit p s h := by
    unfold Plan.lim
    show (limL p s).getD h.toNat 0 = _
    rw [List.getD, limL_at hl, Option.getD_some]
    congr 1; omega
  rw [e]
  exact limit_ge p s h k0 k1
def putAt {α : Type} (l : List α) (i : Nat) (v : α) : List α := l.take i ++ [v] ++ l.drop (i + 1)
theorem putAt_len {α : Type} {l : List α} {i : Nat} (hi : i < l.length) (v : α) : (putAt l i v).length = l.length := by
  unfold putAt
  rw [List.length_append, List.length_append, List.length_take, List.length_drop, List.length_singleton]
  omega
theorem putAt_at {α : Type} {l : List α} {i : Nat} (hi : i < l.length) (v : α) : (putAt l i v)[i]? = some v := by
  unfold putAt
  have hti : (l.take i).length = i := by rw [List.length_take]; omega
  rw [List.append_assoc, List.getElem?_append_right (by omega), hti, Nat.sub_self]
  rfl
def isValAt (h : Int) : Reason → Bool
  | .value a _ => decide (a = h)
  | _ => false
theorem eqv_valAt (r : Reason) (h : Int) : PyData.eqv (.tuple ((eRl r).take 2)) (.tuple [.str "value", .int h]) = isValAt h r := by
  cases r <;> simp only [eRl, List.take, isValAt, PyData.eqv, PyData.eqvAll, sne1, sne2, sne3, sne4, sne5, sne6, beq_self_eq_true, Bool.false_and, Bool.true_and, Bool.and_true] <;> first | rfl | (rw [Bool.eq_iff_iff]; simp)
theorem limP_named (p : Plan) (ls s : List Int) : named (limP p ls) s = named p s := rfl
theorem limP_value (p : Plan) (ls : List Int) (ws : List Wish) (h k : Int) : valueAt (limP p ls) ws h k = valueAt p ws h k := rfl
theorem less_some {p : Plan} {s : List Int} {h : Nat} (hh : h < p.houses.length) : ((reasonsOf (limP p (putAt (limL p s) h (leastLimit p s h - 1))) s).filter (isValAt h)) ≠ [] := by
  have hl : h < (limL p s).length := by rw [limL_len]; exact hh
  obtain ⟨k, k0, k1, e⟩ := limit_at p s h
  have hm : Reason.value h k ∈ reasonsOf (limP p (putAt (limL p s) h (leastLimit p s h - 1))) s := by
    unfold reasonsOf
    refine List.mem_append_right _ (List.mem_map.mpr ⟨((h : Int), k), ?_, rfl⟩)
    unfold crowded
    rw [List.mem_flatMap]
    refine ⟨(leastLimit p s h - 1, h), ?_, ?_⟩
    · rw [List.mem_zipIdx_iff_getElem?]
      exact putAt_at hl _
    · rw [List.mem_map]
      refine ⟨k, ?_, rfl⟩
      unfold crowdRow
      rw [List.mem_filter, rangeD_mem, decide_eq_true_iff, limP_named, limP_value, e]
      exact ⟨by omega, Int.sub_lt_self _ (by decide)⟩
  intro z
  have : Reason.value h k ∈ (reasonsOf (limP p (putAt (limL p s) h (leastLimit p s h - 1))) s).filter (isValAt h) := List.mem_filter.mpr ⟨hm, decide_eq_true rfl⟩
  rw [z] at this; cases this
/-! new loans -/
structure LoanOk (p : Plan) (h i weeks : Int) : Prop where
  h0 : 0 ≤ h
  h1 : h < p.houses.length
  ob : InObj p i
  ne : (p.obj i).home ≠ h
  w0 : 1 ≤ weeks
  w1 : weeks ≤ 40
theorem new_gw {p : Plan} {s : List Int} (hp : p.Ok) (hs : SomeOk p s) {h i weeks k : Int} (hl : LoanOk p h i weeks) (k0 : 0 ≤ k) (k1 : k + weeks ≤ 61) : GoodWs p (named p s ++ [newW h i weeks k]) := by
  have g := hs.gw hp
  have w0 := hl.w0
  refine ⟨fun w hw => ?_, fun w hw => ?_⟩
  · rcases List.mem_append.mp hw with q | q
    · exact g.it w q
    · rw [List.mem_singleton.mp q]; exact hl.ob
  · rcases List.mem_append.mp hw with q | q
    · exact g.wk w q
    · rw [List.mem_singleton.mp q]
      exact ⟨k0, by show k ≤ k + weeks - 1; omega, by show k + weeks - 1 ≤ 60; omega⟩
def moreP (p : Plan) (w : Wish) : Plan := ⟨p.houses, p.objects, p.wishes ++ [w]⟩
theorem newW_ok {p : Plan} {h i weeks k : Int} (hl : LoanOk p h i weeks) (k0 : 0 ≤ k) (k1 : k + weeks ≤ 61) : (newW h i weeks k).Ok p := by
  have w0 := hl.w0
  exact ⟨hl.h0, hl.h1, hl.ob.1, hl.ob.2, hl.ne, k0, by show k ≤ k + weeks - 1; omega, by show k + weeks - 1 ≤ 60; omega⟩
theorem moreP_some {p : Plan} {s : List Int} (hs : SomeOk p s) (w : Wish) : SomeOk (moreP p w) (s ++ [(p.wishes.length : Int)]) := by
  have hl : (moreP p w).wishes.length = p.wishes.length + 1 := by show (p.wishes ++ [w]).length = _; rw [List.length_append, List.length_singleton]
  refine ⟨fun x hx => ?_, fun x hx => ?_, ?_⟩
  · rcases List.mem_append.mp hx with q | q
    · exact hs.lo x q
    · rw [List.mem_singleton.mp q]; omega
  · rw [hl]
    rcases List.mem_append.mp hx with q | q
    · have := hs.hi x q; omega
    · rw [List.mem_singleton.mp q]; omega
  · rw [asc_iff, List.pairwise_append]
    refine ⟨(asc_iff s).mp hs.as, by simp, fun a ha b hb => ?_⟩
    rw [List.mem_singleton.mp hb]
    exact hs.hi a ha
theorem moreP_named {p : Plan} {s : List Int} (hs : SomeOk p s) (w : Wish) : named (moreP p w) (s ++ [(p.wishes.length : Int)]) = named p s ++ [w] := by
  unfold named
  rw [List.map_append]
  congr 1
  · refine List.map_congr_left fun x hx => ?_
    have h0 := hs.lo x hx
    have h1 := hs.hi x hx
    unfold Plan.wish moreP
    simp only [List.getD]
    rw [List.getElem?_append_left (by omega)]
  · show [(moreP p w).wish _] = [w]
    congr 1
    unfold Plan.wish moreP
    rw [Int.toNat_natCast]
    simp only [List.getD]
    rw [List.getElem?_append_right (Nat.le_refl _), Nat.sub_self]
    rfl
theorem moreP_good {p : Plan} {s : List Int} (hs : SomeOk p s) (h i weeks k : Int) : areGood (moreP p (newW h i weeks k)) (named (moreP p (newW h i weeks k)) (s ++ [(p.wishes.length : Int)])) = fitsAt p s h i weeks k := by
  rw [moreP_named hs]
  exact areGood_cong (p := p) (q := moreP p (newW h i weeks k)) rfl rfl _
theorem weeksOf_snoc (ws : List Wish) (w : Wish) (j : Int) : weeksOf (ws ++ [w]) j = weeksOf ws j + if w.item = j then w.last - w.first + 1 else 0 := by
  unfold weeksOf
  rw [List.filter_append, List.map_append, List.sum_append]
  congr 1
  by_cases c : w.item = j
  · rw [if_pos c, List.filter_cons_of_pos (by simpa using c)]; simp
  · rw [if_neg c, List.filter_cons_of_neg (by simpa using c)]; simp
theorem valueAt_snoc (p : Plan) (ws : List Wish) (w : Wish) (h k : Int) : valueAt p (ws ++ [w]) h k = valueAt p ws h k + if w.house = h ∧ w.first ≤ k ∧ k ≤ w.last then (p.obj w.item).value else 0 := by
  unfold valueAt thereIn
  rw [List.filter_append, List.map_append, List.sum_append]
  congr 1
  by_cases c : w.house = h ∧ w.first ≤ k ∧ k ≤ w.last
  · rw [if_pos c, List.filter_cons_of_pos (by simpa using c)]; simp
  · rw [if_neg c, List.filter_cons_of_neg (by simpa using c)]; simp
/-- a shorter loan is possible as early -/
theorem fits_short {p : Plan} {s : List Int} (hp : p.Ok) (hs : SomeOk p s) {h i weeks v k : Int} (hl : LoanOk p h i weeks) (hv : LoanOk p h i v) (vw : v ≤ weeks) (k0 : 0 ≤ k) (k1 : k + weeks ≤ 61) (g : fitsAt p s h i weeks k = true) : fitsAt p s h i v k = true := by
  have f := (areGood_iff hp (new_gw hp hs hl k0 k1)).mp g
  refine (areGood_iff hp (new_gw hp hs hv k0 (by omega))).mpr ⟨?_, fun j j0 j1 => ?_, fun a b a0 a1 b0 b1 => ?_⟩
  · have h1 := f.rest
    rw [List.pairwise_append] at h1 ⊢
    refine ⟨h1.1, by simp, fun a ha b hb => ?_⟩
    have h2 := h1.2.2 a ha (newW h i weeks k) List.mem_cons_self
    rw [List.mem_singleton.mp hb]
    unfold tiredB at h2 ⊢
    by_cases c : a.item = i
    · simp only [newW, c, decide_true, Bool.true_and, Bool.not_eq_false', doRest, Bool.or_eq_true, decide_eq_true_eq] at h2 ⊢
      omega
    · have : ∀ u : Int, decide (a.item = (newW h i u k).item) = false := fun u => decide_eq_false c
      rw [this]; rfl
  · have h1 := f.light j j0 j1
    rw [weeksOf_snoc] at h1 ⊢
    by_cases c : i = j
    · rw [if_pos (show (newW h i weeks k).item = j from c)] at h1
      rw [if_pos (show (newW h i v k).item = j from c)]
      have e1 : (newW h i weeks k).last - (newW h i weeks k).first + 1 = k + weeks - 1 - k + 1 := rfl
      have e2 : (newW h i v k).last - (newW h i v k).first + 1 = k + v - 1 - k + 1 := rfl
      omega
    · rw [if_neg (show ¬ (newW h i weeks k).item = j from c)] at h1
      rw [if_neg (show ¬ (newW h i v k).item = j from c)]
      exact h1
  · have h1 := f.value a b a0 a1 b0 b1
    rw [valueAt_snoc] at h1 ⊢
    have vn := (hp.os _ (p.obj_mem hl.ob.1 hl.ob.2)).v0
    have e1 : (p.obj (newW h i weeks k).item).value = (p.obj i).value := rfl
    have e2 : (p.obj (newW h i v k).item).value = (p.obj i).value := rfl
    by_cases c : h = a ∧ k ≤ b ∧ b ≤ k + v - 1
    · have d : h = a ∧ k ≤ b ∧ b ≤ k + weeks - 1 := by omega
      rw [if_pos (show (newW h i weeks k).house = a ∧ (newW h i weeks k).first ≤ b ∧ b ≤ (newW h i weeks k).last from d)] at h1
      rw [if_pos (show (newW h i v k).house = a ∧ (newW h i v k).first ≤ b ∧ b ≤ (newW h i v k).last from c)]
      omega
    · rw [if_neg (show ¬ ((newW h i v k).house = a ∧ (newW h i v k).first ≤ b ∧ b ≤ (newW h i v k).last) from c)]
      by_cases d : h = a ∧ k ≤ b ∧ b ≤ k + weeks - 1
      · rw [if_pos (show (newW h i weeks k).house = a ∧ (newW h i weeks k).first ≤ b ∧ b ≤ (newW h i weeks k).last from d)] at h1; omega
      · rw [if_neg (show ¬ ((newW h i weeks k).house = a ∧ (newW h i weeks k).first ≤ b ∧ b ≤ (newW h i weeks k).last) from d)] at h1; exact h1
/-! what is found first in a range -/
theorem find_range {q : Int → Bool} {lo : Int} {n : Nat} {x : Int} (h : (rangeD lo n).find? q = some x) : (lo ≤ x ∧ x < lo + n) ∧ q x = true ∧ ∀ y, lo ≤ y → y < x → q y = false := by
  have h1 := rangeD_mem.mp (List.mem_of_find?_eq_some h)
  refine ⟨h1, List.find?_some h, fun y y0 y1 => ?_⟩
  obtain ⟨_, as, bs, e, hn⟩ := List.find?_eq_some_iff_append.mp h
  have hy : y ∈ rangeD lo n := rangeD_mem.mpr (by omega)
  have hp := asc_range lo n
  rw [e] at hy hp
  rw [List.pairwise_append, List.pairwise_cons] at hp
  rcases List.mem_append.mp hy with q1 | q1
  · simpa using hn y q1
  · rcases List.mem_cons.mp q1 with q2 | q2
    · omega
    · have := hp.2.1.1 y q2; omega
theorem find_none {q : Int → Bool} {lo : Int} {n : Nat} (h : (rangeD lo n).find? q = none) : ∀ y, lo ≤ y → y < lo + n → q y = false := fun y y0 y1 => by
  have := List.find?_eq_none.mp h y (rangeD_mem.mpr ⟨y0, y1⟩)
  simpa using this
theorem find_is {q : Int → Bool} {lo : Int} {n : Nat} {x : Int} (h0 : lo ≤ x) (h1 : x < lo + n) (hq : q x = true) (hn : ∀ y, lo ≤ y → y < x → q y = false) : (rangeD lo n).find? q = some x := by
  cases h : (rangeD lo n).find? q with
  | none => have := find_none h x h0 h1; rw [hq] at this; cases this
  | some y =>
    obtain ⟨a, b, c⟩ := find_range h
    congr 1
    rcases Int.lt_trichotomy x y with e | e | e
    · have := c x h0 e; rw [hq] at this; cases this
    · exact e.symm
    · have := hn y a.1 e; rw [b] at this; cases this
/-! contracts: limits.py -/
def c_first_week : Ct := ⟨Plan × List Int × Int × Int × Int × Int, fun a => [eP a.1, eT a.2.1, .int a.2.2.1, .int a.2.2.2.1, .int a.2.2.2.2.1, .int a.2.2.2.2.2],
  fun a => a.1.Ok ∧ SomeOk a.1 a.2.1 ∧ LoanOk a.1 a.2.2.1 a.2.2.2.1 a.2.2.2.2.1 ∧ (0 ≤ a.2.2.2.2.2 ∧ a.2.2.2.2.2 ≤ 60) ∧ good a.1 a.2.1 = true, fun a => Eq (eOpt PyData.int (firstWeek a.1 a.2.1 a.2.2.1 a.2.2.2.1 a.2.2.2.2.1 a.2.2.2.2.2))⟩
def c_least_limit : Ct := ⟨Plan × List Int × Int, fun a => [eP a.1, eT a.2.1, .int a.2.2], fun a => a.1.Ok ∧ SomeOk a.1 a.2.1 ∧ 0 ≤ a.2.2 ∧ a.2.2 < a.1.houses.length, fun a => Eq (.int (leastLimit a.1 a.2.1 a.2.2))⟩
def c_least_light : Ct := ⟨Plan × List Int × Int, fun a => [eP a.1, eT a.2.1, .int a.2.2], fun a => a.1.Ok ∧ SomeOk a.1 a.2.1 ∧ InObj a.1 a.2.2, fun a => Eq (.int (leastLight a.1 a.2.1 a.2.2))⟩
def c_rests_between : Ct := ⟨List Wish × Int, fun a => [eLW a.1, .int a.2], fun a => a.1.length ≤ 100, fun a => Eq (.bool (restsBetween a.2 a.1))⟩
def c_most_rest : Ct := ⟨Plan × List Int × Int, fun a => [eP a.1, eT a.2.1, .int a.2.2], fun a => a.1.Ok ∧ SomeOk a.1 a.2.1 ∧ InObj a.1 a.2.2, fun a => Eq (eOpt PyData.int (mostRest a.1 a.2.1 a.2.2))⟩
def c_law_longer : Ct := ⟨Plan × List Int × Int × Int × Int × Int, fun a => [eP a.1, eT a.2.1, eW (newW a.2.2.1 a.2.2.2.1 a.2.2.2.2.1 a.2.2.2.2.2)],
  fun a => a.1.Ok ∧ a.1.wishes.length ≤ 7 ∧ SomeOk a.1 a.2.1 ∧ LoanOk a.1 a.2.2.1 a.2.2.2.1 a.2.2.2.2.1 ∧ 0 ≤ a.2.2.2.2.2 ∧ a.2.2.2.2.2 + a.2.2.2.2.1 ≤ 61, fun a => Eq (.bool (fitsAt a.1 a.2.1 a.2.2.1 a.2.2.2.1 a.2.2.2.2.1 a.2.2.2.2.2))⟩
def c_law_early : Ct := ⟨Plan × List Int × Int × Int × Int × Int, fun a => [eP a.1, eT a.2.1, .int a.2.2.1, .int a.2.2.2.1, .int a.2.2.2.2.1, .int a.2.2.2.2.2],
  fun a => a.1.Ok ∧ a.1.wishes.length ≤ 7 ∧ SomeOk a.1 a.2.1 ∧ LoanOk a.1 a.2.2.1 a.2.2.2.1 a.2.2.2.2.1 ∧ (0 ≤ a.2.2.2.2.2 ∧ a.2.2.2.2.2 ≤ 60) ∧ good a.1 a.2.1 = true, fun _ => Eq (.bool true)⟩
def c_law_kept : Ct := ⟨Plan × List Int, fun a => [eP a.1, eT a.2], fun a => a.1.Ok ∧ SomeOk a.1 a.2, fun _ => Eq (.bool true)⟩
theorem en_optI : En (eOpt PyData.int) 1 := by
  refine ⟨fun o => ?_, fun a b => ?_⟩
  · cases o with
    | none => exact shp_none.mono (by decide)
    | some i => exact (shp_int i).mono (by decide)
  · cases a <;> cases b <;> first | rfl | (simp only [eOpt]; rw [eqI, Bool.eq_iff_iff]; simp)
end Mus

namespace Mus
open PySem PySem.Spec PyProof.Rows L2 PL
/-! ## a plan with a wish more (k29) -/
section
variable {p : Plan} {w : Wish}
theorem moreP_ok (hp : p.Ok) (h7 : p.wishes.length ≤ 7) (hw : w.Ok p) : (moreP p w).Ok := more_ok hp h7 hw
theorem moreP_wo (hp : p.Ok) (h7 : p.wishes.length ≤ 7) (hw : w.Ok p) : Wo p (moreP p w) p.wishes.length := more_wo hp h7 hw
theorem moreP_len : (moreP p w).wishes.length = p.wishes.length + 1 := by show (p.wishes ++ [w]).length = _; rw [List.length_append, List.length_singleton]
theorem skip_id {n : Nat} {s : List Int} (h : ∀ x ∈ s, x < (n : Int)) : s.map (skip n) = s := by
  have : s.map (skip n) = s.map id := List.map_congr_left fun x hx => by
    show skip n x = x
    unfold skip
    rw [if_pos (h x hx)]
  rw [this, List.map_id]
theorem good_more (hp : p.Ok) (h7 : p.wishes.length ≤ 7) (hw : w.Ok p) {s : List Int} (hs : SomeOk p s) : good (moreP p w) s = good p s := by
  have h := (moreP_wo hp h7 hw).good hs
  rw [skip_id hs.hi] at h
  exact h.symm
theorem clash_more (hp : p.Ok) (h7 : p.wishes.length ≤ 7) (hw : w.Ok p) {s : List Int} (hs : SomeOk p s) : isClash (moreP p w) s = isClash p s := by
  unfold isClash
  rw [good_more hp h7 hw hs]
  congr 1
  rw [Bool.eq_iff_iff, List.all_eq_true, List.all_eq_true]
  constructor
  · intro h i hi
    rw [← good_more hp h7 hw (hs.sub (less_sub s i))]; exact h i hi
  · intro h i hi
    rw [good_more hp h7 hw (hs.sub (less_sub s i))]; exact h i hi
theorem sorted_filter (l : List (List Int)) (q : List Int → Bool) : (sortR l).filter q = sortR (l.filter q) :=
  sorted_uniq ((sortR_sorted l).sublist List.filter_sublist) (sortR_sorted _) (((sortR_perm l).filter q).trans (sortR_perm _).symm)
theorem clashes_more (hp : p.Ok) (h7 : p.wishes.length ≤ 7) (hw : w.Ok p) : (clashesOf (moreP p w)).filter (fun r => decide ((p.wishes.length : Int) ∉ r)) = clashesOf p := by
  unfold clashesOf
  rw [sorted_filter, moreP_len, List.filter_filter]
  congr 1
  show ((subs p.wishes.length ++ (subs p.wishes.length).map fun r => r ++ [(p.wishes.length : Int)]).filter _) = _
  rw [List.filter_append]
  have e1 : ((subs p.wishes.length).map fun r => r ++ [(p.wishes.length : Int)]).filter (fun a => decide ((p.wishes.length : Int) ∉ a) && isClash (moreP p w) a) = [] := by
    rw [List.filter_eq_nil_iff]
    intro r hr
    obtain ⟨u, _, rfl⟩ := List.mem_map.mp hr
    simp
  rw [e1, List.append_nil]
  refine List.filter_congr fun s hs => ?_
  have h := subs_some.mp hs
  rw [clash_more hp h7 hw h]
  have : (p.wishes.length : Int) ∉ s := fun z => by have := h.hi _ z; omega
  rw [decide_eq_true this, Bool.true_and]
theorem loans_more (hp : p.Ok) (h7 : p.wishes.length ≤ 7) (hw : w.Ok p) {i : Int} (hi : InObj p i) : loansOf p i ≤ loansOf (moreP p w) i ∧ loansOf (moreP p w) i ≤ loansOf p i + 1 := by
  have ok := moreP_ok hp h7 hw
  constructor
  · refine loans_hold ok hp hi hi fun s hs => ?_
    obtain ⟨v, hv, e1, e2⟩ := mem_spans.mp hs
    exact ⟨s, mem_spans.mpr ⟨v, List.mem_append_left _ hv, e1, e2⟩, Int.le_refl _, Int.le_refl _⟩
  · refine loans_one hp ok hi hi (w.first, w.last + (p.obj i).rest) (by have := hw.fl; have := (hp.rest0 hi).1; show w.first ≤ w.last + _; omega) fun s hs => ?_
    obtain ⟨v, hv, e1, e2⟩ := mem_spans.mp hs
    rcases List.mem_append.mp hv with q | q
    · right; exact mem_spans.mpr ⟨v, q, e1, e2⟩
    · left; rw [e2, List.mem_singleton.mp q]; rfl
theorem loans_other {i : Int} (h : w.item ≠ i) : loansOf (moreP p w) i = loansOf p i := by
  unfold loansOf spansOf endsOf moreP
  rw [List.filter_append, List.filter_cons_of_neg (by simpa using h)]
  simp [Plan.obj]
end
def c_law_grown : Ct := ⟨Plan × Wish, fun a => [eP a.1, eW a.2], fun a => a.1.Ok ∧ a.1.wishes.length ≤ 7 ∧ a.2.Ok a.1, fun _ => Eq (.bool true)⟩
/-- in the first free weeks there is place beside the best -/
theorem free_sure {p : Plan} {w : Wish} (hp : p.Ok) (h7 : p.wishes.length ≤ 7) (hw : w.Ok p) (hg : areGood p (named p (best p) ++ [w]) = true) : mostGranted (moreP p w) = mostGranted p + 1 ∧ isSure (moreP p w) p.wishes.length = true ∧ SomeOk (moreP p w) (best p ++ [(p.wishes.length : Int)]) ∧ good (moreP p w) (best p ++ [(p.wishes.length : Int)]) = true := by
  have ok := moreP_ok hp h7 hw
  have wo := moreP_wo hp h7 hw
  have hb := mem_largest.mp (best_mem hp)
  have hs := moreP_some hb.1.1 w
  have g : good (moreP p w) (best p ++ [(p.wishes.length : Int)]) = true := by
    rw [← good_eq ok hs, moreP_named hb.1.1]
    exact (areGood_cong (p := p) (q := moreP p w) rfl rfl _).trans hg
  have h1 := le_most hs g
  rw [List.length_append, List.length_singleton, hb.2] at h1
  have h2 := wo.most_ge
  have h3 : mostGranted (moreP p w) = mostGranted p + 1 := by omega
  exact ⟨h3, wo.sure.mpr h3.symm, hs, g⟩
end Mus

namespace Mus
open PySem PySem.Spec PyProof.Rows L2 PL
/-! ## sorts that can be computed -/
def insL {α : Type} (lt : α → α → Bool) (a : α) : List α → List α
  | [] => [a]
  | b :: l => if lt b a then b :: insL lt a l else a :: b :: l
def insSort {α : Type} (lt : α → α → Bool) : List α → List α
  | [] => []
  | a :: l => insL lt a (insSort lt l)
theorem insL_perm {α : Type} (lt : α → α → Bool) (a : α) : ∀ l : List α, (insL lt a l).Perm (a :: l)
  | [] => List.Perm.refl _
  | b :: l => by
    unfold insL
    split
    · exact ((insL_perm lt a l).cons b).trans (List.Perm.swap a b l)
    · exact List.Perm.refl _
theorem insSort_perm {α : Type} (lt : α → α → Bool) : ∀ l : List α, (insSort lt l).Perm l
  | [] => List.Perm.refl _
  | a :: l => (insL_perm lt a _).trans ((insSort_perm lt l).cons a)
theorem insL_sorted {α : Type} {lt : α → α → Bool} (tr : ∀ a b c, lt b a = false → lt c b = false → lt c a = false) (as : ∀ a b, lt a b = true → lt b a = false) (a : α) : ∀ l : List α, l.Pairwise (fun x y => lt y x = false) → (insL lt a l).Pairwise fun x y => lt y x = false
  | [], _ => by simp [insL]
  | b :: l, h => by
    obtain ⟨h1, h2⟩ := List.pairwise_cons.mp h
    unfold insL
    by_cases c : lt b a = true
    · rw [if_pos c]
      refine List.pairwise_cons.mpr ⟨fun x hx => ?_, insL_sorted tr as a l h2⟩
      rcases List.mem_cons.mp ((insL_perm lt a l).mem_iff.mp hx) with e | e
      · rw [e]; exact as _ _ c
      · exact h1 x e
    · rw [if_neg c]
      have c' : lt b a = false := by simpa using c
      refine List.pairwise_cons.mpr ⟨fun x hx => ?_, h⟩
      rcases List.mem_cons.mp hx with e | e
      · rw [e]; exact c'
      · exact tr _ _ _ c' (h1 x e)
theorem insSort_sorted {α : Type} {lt : α → α → Bool} (tr : ∀ a b c, lt b a = false → lt c b = false → lt c a = false) (as : ∀ a b, lt a b = true → lt b a = false) : ∀ l : List α, (insSort lt l).Pairwise fun x y => lt y x = false
  | [] => List.Pairwise.nil
  | a :: l => insL_sorted tr as a _ (insSort_sorted tr as l)
def ltR : List Int → List Int → Bool
  | [], [] => false
  | [], _ :: _ => true
  | _ :: _, [] => false
  | a :: l, b :: m => decide (a < b) || (decide (a = b) && ltR l m)
theorem ltR_is : ∀ l m : List Int, ltR l m = decide (l < m)
  | [], [] => by simp [ltR]
  | [], _ :: _ => by simp [ltR]
  | _ :: _, [] => by simp [ltR]
  | a :: l, b :: m => by
    unfold ltR
    rw [ltR_is l m, Bool.eq_iff_iff]
    simp [List.cons_lt_cons_iff]
theorem sortR_ins (l : List (List Int)) : sortR l = insSort ltR l := by
  have e : ltR = fun a b => decide (a < b) := by funext a b; exact ltR_is a b
  refine sorted_uniq (sortR_sorted l) ?_ ((sortR_perm l).trans (insSort_perm _ l).symm)
  rw [e]
  refine (insSort_sorted (lt := fun a b : List Int => decide (a < b)) (fun a b c h1 h2 => ?_) (fun a b h => ?_) l).imp fun {a b} h => by simpa using h
  · simp only [decide_eq_false_iff_not, List.not_lt] at h1 h2 ⊢
    exact List.le_trans h1 h2
  · simp only [decide_eq_true_eq, decide_eq_false_iff_not, List.not_lt] at h ⊢
    exact List.le_of_lt h
theorem sortP_ins (l : List (Int × Int)) : sortP l = insSort pairLt l := by
  refine List.Perm.eq_of_pairwise (le := fun a b => pairLt b a = false) (fun a b _ _ h1 h2 => ?_) (sortP_sorted l) (insSort_sorted (fun a b c h1 h2 => ?_) (fun a b h => ?_) l) ((sortP_perm l).trans (insSort_perm _ l).symm)
  · simp only [pairLt, Bool.or_eq_false_iff, Bool.and_eq_false_iff, decide_eq_false_iff_not] at h1 h2
    exact Prod.ext (by omega) (by omega)
  · simp only [pairLt, Bool.or_eq_false_iff, Bool.and_eq_false_iff, decide_eq_false_iff_not] at h1 h2 ⊢
    omega
  · simp only [pairLt, Bool.or_eq_true, Bool.and_eq_true, Bool.or_eq_false_iff, Bool.and_eq_false_iff, decide_eq_false_iff_not, decide_eq_true_eq] at h ⊢
    omega
def wRow (w : Wish) : List Int := [w.first, w.house, w.item, w.first, w.last]
theorem wLt_row (a b : Wish) : wLt a b = ltR (wRow a) (wRow b) := by
  unfold wLt wRow
  rw [ltR]
  by_cases e : a.first = b.first
  · have h1 : decide (a.first < b.first) = false := decide_eq_false (by omega)
    have h2 : decide (a.first = b.first) = true := decide_eq_true e
    rw [if_pos e, h1, h2, ltR_is]; rfl
  · have h2 : decide (a.first = b.first) = false := decide_eq_false e
    rw [if_neg e, h2, Bool.false_and, Bool.or_false]
theorem wRow_inj {a b : Wish} (h : wRow a = wRow b) : a = b := by
  obtain ⟨a1, a2, a3, a4⟩ := a
  obtain ⟨b1, b2, b3, b4⟩ := b
  simp only [wRow, List.cons.injEq] at h
  obtain ⟨_, h1, h2, h3, h4, _⟩ := h
  rw [h1, h2, h3, h4]
theorem wLt_trans (a b c : Wish) (h1 : wLt b a = false) (h2 : wLt c b = false) : wLt c a = false := by
  rw [wLt_row, ltR_is, decide_eq_false_iff_not, List.not_lt] at h1 h2 ⊢
  exact List.le_trans h1 h2
theorem wLt_asym (a b : Wish) (h : wLt a b = true) : wLt b a = false := by
  rw [wLt_row, ltR_is] at h ⊢
  simp only [decide_eq_true_eq, decide_eq_false_iff_not, List.not_lt] at h ⊢
  exact List.le_of_lt h
theorem wLt_antisym {a b : Wish} (h1 : wLt a b = false) (h2 : wLt b a = false) : a = b := by
  rw [wLt_row, ltR_is, decide_eq_false_iff_not, List.not_lt] at h1 h2
  exact wRow_inj (List.le_antisymm h2 h1)
theorem sortW_sorted (l : List Wish) : (sortW l).Pairwise fun a b => wLt b a = false := by
  have h := List.pairwise_mergeSort (le := fun a b : Wish => !wLt b a) (fun a b c h1 h2 => by
    simp only [Bool.not_eq_true'] at h1 h2 ⊢
    exact wLt_trans a b c h1 h2) (fun a b => by
    rw [Bool.or_eq_true]
    simp only [Bool.not_eq_true']
    cases q : wLt b a with
    | false => exact Or.inl rfl
    | true => exact Or.inr (wLt_asym _ _ q)) l
  exact h.imp fun h => by simpa using h
theorem sortW_uniq {l m : List Wish} (h1 : l.Pairwise fun a b => wLt b a = false) (h2 : m.Pairwise fun a b => wLt b a = false) (p : l.Perm m) : l = m :=
  List.Perm.eq_of_pairwise (le := fun a b => wLt b a = false) (fun a b _ _ h1 h2 => wLt_antisym h2 h1) h1 h2 p
theorem sortW_ins (l : List Wish) : sortW l = insSort wLt l := sortW_uniq (sortW_sorted l) (insSort_sorted wLt_trans wLt_asym l) ((sortW_perm l).trans (insSort_perm _ l).symm)
theorem sortW_cong {l m : List Wish} (h : l.Perm m) : sortW l = sortW m := sortW_uniq (sortW_sorted l) (sortW_sorted m) ((sortW_perm l).trans (h.trans (sortW_perm m).symm))
end Mus

namespace PL
open PySem PySem.Spec PyProof.Rows L2
section
variable {X : Cx} {ρ : List SD} {a b : Expr} {p p2 q pos : Pos}
theorem rpA_rep {H : Hp} {xs : List V} {ds : List PyData} (r : RpA H xs ds) : ∀ k : Nat, RpA H (List.replicate k xs).flatten (List.replicate k ds).flatten
  | 0 => .nil
  | k + 1 => by
    rw [List.replicate_succ, List.replicate_succ, List.flatten_cons, List.flatten_cons]
    exact r.append (rpA_rep r k)
/-- a tuple, so many times -/
theorem ev_repT {ds : List PyData} {k : Nat} (ha : Ev X ρ a (.tuple ds)) (hb : Ev X ρ b (.int k)) (hn : ds ≠ []) (h2 : 2 ≤ k) (hk : k ≤ 1000) (hl : ds.length ≤ 1000) (hz : (List.replicate k ds).flatten.length ≤ big) : Ev X ρ (.BinOp a .Mult b pos) (.tuple (List.replicate k ds).flatten) :=
  ev_bin op_repT ha hb fun O H x y Q al r1 r2 kt => by
    cases r1 with
    | tup g1 g2 g3 =>
      cases r2
      refine ⟨_, k, _, rfl, rfl, SqT.of (msk_some g1).2, fun z => ?_, by omega, by omega, by rw [g3.len]; exact hl, ?_⟩
      · rw [z] at g3; cases g3; exact hn rfl
      · rw [Int.toNat_natCast]
        exact kt.tup al rfl hz (rpA_rep g3 k)
/-- tuple(range(lo, hi)) -/
theorem ev_tupR2 {lo hi : Int} (hc : X.calm = true) (hg : Gl X "tuple") (hm : X.mg "tuple" = none) (hg2 : Gl X "range") (hm2 : X.mg "range" = none) (ha : Ev X ρ a (.int lo)) (hb : Ev X ρ b (.int hi)) (h1 : 0 ≤ lo ∧ lo ≤ 4096 ∧ 0 ≤ hi ∧ hi ≤ 4096) (h2 : hi - lo ≤ 4096)
    (n1 : starEach [a, b] X.env = (false, eval a X.env) :: starEach [b] X.env := by rfl) (n1' : starEach [b] X.env = (false, eval b X.env) :: starEach [] X.env := by rfl) (n2 : starEach [.Call (.Name "range" p) [a, b] [] q] X.env = (false, eval (.Call (.Name "range" p) [a, b] [] q) X.env) :: starEach [] X.env := by rfl) (hp : (backTo q (starEach [b] X.env)).any (·.1) = false := by rfl) :
    Ev X ρ (.Call (.Name "tuple" p2) [.Call (.Name "range" p) [a, b] [] q] [] pos) (.tuple ((rangeD lo (hi - lo).toNat).map PyData.int)) :=
  pe_imp (pe_tupRg hc hg hm (prg_2 hg2 hm2 ha hb n1 n1' hp) n2) fun σ H Q ⟨F, O0, O1, s, k⟩ => ⟨F, O0, O1, s, fun v d H1 s1 e1 hd r => ⟨F, O0, O1, s1, fun w d' H2 s2 e2 hd' r' => by
    subst hd; subst hd'
    cases r; cases r'
    refine ⟨lo, hi, rfl, rfl, RgOk.of_le (by omega) (by omega) (by omega) (by omega), ?_⟩
    rw [rgV_eq]
    exact (s2.kt (e1.trans e2) k).tup s2.al rfl (by rw [List.length_map, rangeD_len]; show _ ≤ 4096; omega) (rpA_ints _)⟩⟩
/-- a call without arguments -/
theorem ev_call0 {x : Str} {k n : Nat} {ps : List Str} {C : Ct} {d : PyData} (F : Def X.prog X.w X.K X.mg X.base k x ps C) (a : C.A) (hr : Room n X.A) (hg : Gl X x) (hp : C.pre a) (he : C.enc a = [] := by rfl) (hG : C.res a = Eq d := by rfl) (hkn : k ≤ n := by decide)
    (hdb : (x == ("__debug__" : Str)) = false := by decide) : Ev X ρ (.Call (.Name x p) [] [] pos) d := by
  obtain ⟨f, fd, F1, F2, F3, F4⟩ := F
  refine pe_imp (pe_call0 F1 (hr.mono hkn) hg F2 F3 F4.bd .nil pass0 hdb) fun σ H Q ⟨F, O0, O1, s, q⟩ => ?_
  show spG C ([] ++ []) H Q E0
  exact ⟨O1 ++ O0, a, hp, s.al, by rw [he]; exact .nil, fun v d' H' e' hd r => s.kt (Ex.refl _) q v d' H' e' (by rw [hG] at hd; exact hd) r⟩
end
end PL

namespace Mus
open PySem PySem.Spec PyProof.Rows L2 PL
/-! ## plans by hand (k26) -/
theorem obj_of_isObj {n : Nat} {o : Obj} (h : isObjD n (eO o) = true) : o.Ok n := by
  simp only [isObjD, isBetween_int, Bool.and_eq_true, decide_eq_true_eq] at h
  exact ⟨by omega, by omega, by omega, by omega, by omega, by omega, by omega, by omega⟩
theorem wish_of_isWish {p : Plan} {w : Wish} (h : isWishD p.houses.length (p.objects.map eO) (eW w) = true) : w.Ok p := by
  simp only [isWishD, isBetween_int, toI, List.length_map, Bool.and_eq_true, decide_eq_true_eq] at h
  obtain ⟨h1, h2, h3, h4, h5⟩ := h
  have hj : w.item.toNat < p.objects.length := by omega
  have e1 : (p.objects.map eO).getD w.item.toNat .none = eO (p.obj w.item) := by
    unfold Plan.obj
    simp [List.getD, List.getElem?_map, List.getElem?_eq_getElem hj]
  rw [e1] at h3
  simp only [homeD, eqI, Bool.not_eq_true', decide_eq_false_iff_not] at h3
  exact ⟨by omega, by omega, by omega, by omega, h3, by omega, by omega, by omega⟩
theorem ok_of_isPlan {p : Plan} (h : isPlanD (eP p) = true) : p.Ok := by
  simp only [isPlanD, List.length_map, List.all_map, Bool.and_eq_true, decide_eq_true_eq, List.all_eq_true] at h
  obtain ⟨⟨h1, h2⟩, h3, ⟨h4, h5⟩, h6, h7, h8⟩ := h
  refine ⟨h1, h2, fun x hx => ?_, h4, h5, fun o ho => obj_of_isObj (h6 o ho), h7, fun w hw => wish_of_isWish (h8 w hw)⟩
  have := h3 x hx
  simp only [Function.comp, isBetween_int, Bool.and_eq_true, decide_eq_true_eq] at this
  exact this
/-- all wishes of a plan -/
def allW (p : Plan) : List Int := rangeD 0 p.wishes.length
theorem allW_some (p : Plan) : SomeOk p (allW p) := ⟨fun x hx => (rangeD_mem.mp hx).1, fun x hx => by have := (rangeD_mem.mp hx).2; omega, (asc_iff _).mpr (asc_range _ _)⟩
theorem sub_all {p : Plan} {s : List Int} (hs : SomeOk p s) : s.Sublist (allW p) := sub_of_mem hs.as (allW_some p).as fun x hx => rangeD_mem.mpr ⟨hs.lo x hx, by have := hs.hi x hx; omega⟩
structure AllGood (p : Plan) : Prop where
  clash : clashesOf p = []
  best : best p = allW p
  refuse : toRefuse p = []
  most : mostGranted p = p.wishes.length
  sure : ∀ w : Int, 0 ≤ w → w < p.wishes.length → roleR p w = .sure
theorem all_good {p : Plan} (hp : p.Ok) (hg : good p (allW p) = true) : AllGood p := by
  have gs : ∀ s, SomeOk p s → good p s = true := fun s hs => good_sub hp (allW_some p) (sub_all hs) hg
  have al : (allW p).length = p.wishes.length := rangeD_len _ _
  have hm : mostGranted p = p.wishes.length := by
    have h1 := le_most (allW_some p) hg
    have h2 := best_len hp
    have h3 := (mem_largest.mp (best_mem hp)).1.1.len
    omega
  have hl : ∀ r ∈ largest p, r = allW p := fun r hr => by
    have h := mem_largest.mp hr
    exact (sub_all h.1.1).eq_of_length_le (by rw [al, h.2, hm]; exact Nat.le_refl _)
  have hb := hl _ (best_mem hp)
  refine ⟨?_, hb, ?_, hm, fun w h0 h1 => role_sure.mpr (sure_iff.mpr fun r hr => by rw [hl r hr]; exact rangeD_mem.mpr ⟨h0, by omega⟩)⟩
  · refine List.eq_nil_iff_forall_not_mem.mpr fun r hr => ?_
    obtain ⟨h1, h2⟩ := mem_clashes.mp hr
    have := (isClash_iff.mp h2).1
    rw [gs r h1] at this; cases this
  · have := refuse_len hp
    exact List.eq_nil_of_length_eq_zero (by omega)
/-! loans in a row -/
def rowP (m : Nat) (rest : Int) : Plan := ⟨[0, 9, 9], [⟨0, 5, rest, 40⟩], (rangeD 0 m).map fun a => ⟨1 + a % 2, 0, a * (2 + rest), a * (2 + rest) + 1⟩⟩
def ms7 : List Nat := [1, 2, 3, 4, 5, 6, 7]
def rs6 : List Int := [0, 1, 2, 3, 4, 5]
def forRows (q : Nat → Int → Bool) : Bool := ms7.all fun m => rs6.all fun r => q m r
theorem forRows_at {q : Nat → Int → Bool} (h : forRows q = true) {m : Nat} {r : Int} (m1 : 1 ≤ m) (m7 : m ≤ 7) (r0 : 0 ≤ r) (r5 : r ≤ 5) : q m r = true := by
  unfold forRows at h
  have h1 := List.all_eq_true.mp h m (by
    unfold ms7
    rcases (by omega : m = 1 ∨ m = 2 ∨ m = 3 ∨ m = 4 ∨ m = 5 ∨ m = 6 ∨ m = 7) with e | e | e | e | e | e | e <;> subst e <;> decide)
  exact List.all_eq_true.mp h1 r (by
    unfold rs6
    rcases (by omega : r = 0 ∨ r = 1 ∨ r = 2 ∨ r = 3 ∨ r = 4 ∨ r = 5) with e | e | e | e | e | e <;> subst e <;> decide)
theorem row_plan : forRows (fun m r => isPlanD (eP (rowP m r))) = true := by decide +kernel
theorem row_good : forRows (fun m r => good (rowP m r) (rangeD 0 m)) = true := by decide +kernel
def spansI (p : Plan) (i : Int) : List Span := (insSort pairLt (endsOf p i)).map fun x => (x.2, x.1)
theorem spansI_eq (p : Plan) (i : Int) : spansOf p i = spansI p i := by unfold spansOf spansI; rw [sortP_ins]
theorem row_loans : forRows (fun m r => decide ((endsMet (spansI (rowP m r) 0)).length = m)) = true := by decide +kernel
theorem row_meeting : forRows (fun m r => decide (firstWeeks (spansI (rowP m r) 0) = (rangeD 0 m).map fun a => a * (2 + r))) = true := by decide +kernel
theorem row_rest : forRows (fun m r => decide (mostRest (rowP m r) (rangeD 0 m) 0 = some (if 1 < m then r else 9))) = true := by decide +kernel
theorem row_light : forRows (fun m r => decide (leastLight (rowP m r) (rangeD 0 m) 0 = 2 * m)) = true := by decide +kernel
def journeysI (p : Plan) (s : List Int) (wait : Int) : Int := ((rangeD 0 p.objects.length).map fun i => trips (insSort wLt (itemW p s i)) wait).sum
theorem journeysI_eq (p : Plan) (s : List Int) (wait : Int) : journeysOf p s wait = journeysI p s wait := by
  unfold journeysOf journeysN journeysI itemTrips
  congr 2
  funext i
  rw [sortW_ins]
theorem row_journeys : forRows (fun m r => decide (journeysI (rowP m r) (rangeD 0 m) r = m + 1)) = true := by decide +kernel
theorem row_journeys2 : forRows (fun m r => decide (r ≤ 0) || decide (journeysI (rowP m r) (rangeD 0 m) (r - 1) = 2 * m)) = true := by decide +kernel
theorem row_first : forRows (fun m r => decide (firstWeek (rowP m r) (rangeD 0 m) 1 0 2 0 = some (m * (2 + r)))) = true := by decide +kernel
/-! loans at the same time -/
def clashesI (p : Plan) : List (List Int) := insSort ltR ((subs p.wishes.length).filter (isClash p))
def largestI (p : Plan) : List (List Int) := insSort ltR ((goodOnes p).filter fun r => decide (r.length = maxL (goodOnes p)))
theorem clashesI_eq (p : Plan) : clashesOf p = clashesI p := by unfold clashesOf clashesI; rw [sortR_ins]
theorem largestI_eq (p : Plan) : largest p = largestI p := by unfold largest largestI; rw [sortR_ins]
def roleI (p : Plan) (w : Int) : Role := if (largestI p).all (fun r => decide (w ∈ r)) then .sure else if (largestI p).any (fun r => decide (w ∈ r)) then .opn else .lost
theorem roleI_eq (p : Plan) (w : Int) : roleR p w = roleI p w := by unfold roleR isSure isAny roleI; rw [largestI_eq]
def refuseI (p : Plan) : List Int := (headMin ltR ((largestI p).map (others p))).getD []
theorem refuseI_eq (p : Plan) : toRefuse p = refuseI p := by
  unfold toRefuse refuseI
  rw [largestI_eq]
  have e : ltR = fun a b => decide (a < b) := by funext a b; exact ltR_is a b
  rw [e]
def lenLtI (a b : List Int) : Bool := if a.length = b.length then ltR a b else decide (a.length < b.length)
def clashInI (p : Plan) (s : List Int) : Option (List Int) := headMin lenLtI ((clashesI p).filter fun r => within r s)
theorem clashInI_eq (p : Plan) (s : List Int) : clashIn p s = clashInI p s := by
  unfold clashIn clashInI
  rw [clashesI_eq]
  have e : lenLtI = lenLt := by funext a b; unfold lenLtI lenLt; rw [ltR_is]
  rw [e]
def heapP (m : Nat) : Plan := ⟨[0, 10], [⟨0, 4, 0, 9⟩, ⟨0, 4, 0, 9⟩, ⟨0, 4, 0, 9⟩, ⟨0, 4, 0, 9⟩], (rangeD 0 m).map fun a => ⟨1, a, 5, 8⟩⟩
def heapDue (m : Nat) : List (List Int) := if m < 3 then [] else if m = 3 then [[0, 1, 2]] else [[0, 1, 2], [0, 1, 3], [0, 2, 3], [1, 2, 3]]
def forHeaps (q : Nat → Bool) : Bool := ([1, 2, 3, 4] : List Nat).all q
theorem forHeaps_at {q : Nat → Bool} (h : forHeaps q = true) {m : Nat} (m1 : 1 ≤ m) (m4 : m ≤ 4) : q m = true :=
  List.all_eq_true.mp h m (by rcases (by omega : m = 1 ∨ m = 2 ∨ m = 3 ∨ m = 4) with e | e | e | e <;> subst e <;> decide)
theorem heap_plan : forHeaps (fun m => isPlanD (eP (heapP m))) = true := by decide +kernel
theorem heap_clashes : forHeaps (fun m => decide (clashesI (heapP m) = heapDue m)) = true := by decide +kernel
theorem heap_most : forHeaps (fun m => decide (mostGranted (heapP m) = min m 2)) = true := by decide +kernel
theorem heap_count : forHeaps (fun m => decide ((largestI (heapP m)).length = [1, 1, 3, 6].getD (m - 1) 0)) = true := by decide +kernel
theorem heap_limit : forHeaps (fun m => decide (leastLimit (heapP m) (rangeD 0 m) 1 = 4 * m)) = true := by decide +kernel
theorem heap_apart : forHeaps (fun m => decide (mostApart (clashesI (heapP m)) = if 2 < m then 1 else 0)) = true := by decide +kernel
theorem heap_reasons : forHeaps (fun m => decide (m ≤ 2) || decide (reasonsOf (heapP m) [0, 1, 2] = (rangeD 5 4).map (Reason.value 1))) = true := by decide +kernel
theorem heap_role : forHeaps (fun m => decide (m ≤ 2) || decide (roleI (heapP m) 1 = .opn)) = true := by decide +kernel
theorem heap_refuse : forHeaps (fun m => decide (m ≤ 2) || decide (refuseI (heapP m) = rangeD 0 (m - 2))) = true := by decide +kernel
theorem heap_in : forHeaps (fun m => decide (m ≤ 2) || decide (clashInI (heapP m) (rangeD 0 m) = some [0, 1, 2])) = true := by decide +kernel
theorem heap_add : forHeaps (fun m => good (heapP m) [0] && decide (added (heapP m) [0] = rangeD 1 (m - 1))) = true := by decide +kernel
/-! too many weeks together -/
def dullP : Plan := ⟨[0, 20], [⟨0, 3, 0, 9⟩], [⟨1, 0, 0, 4⟩, ⟨1, 0, 10, 14⟩, ⟨1, 0, 20, 23⟩]⟩
def tightP : Plan := ⟨[0, 2], [⟨0, 3, 0, 9⟩], [⟨1, 0, 0, 4⟩, ⟨1, 0, 10, 14⟩, ⟨1, 0, 20, 23⟩]⟩
theorem dull_ok : dullP.Ok := ok_of_isPlan (by decide +kernel)
theorem tight_ok : tightP.Ok := ok_of_isPlan (by decide +kernel)
theorem dull_clashes : clashesOf dullP = [[0, 1]] := by rw [clashesI_eq]; decide +kernel
theorem dull_reasons : reasonsOf dullP [0, 1, 2] = [.light 0] := by decide +kernel
theorem dull_best : best dullP = [0, 2] := by unfold best; rw [largestI_eq]; decide +kernel
theorem dull_count : (largest dullP).length = 2 := by rw [largestI_eq]; decide +kernel
theorem dull_refuse : toRefuse dullP = [0] := by rw [refuseI_eq]; decide +kernel
theorem dull_role : roleR dullP 2 = .sure := by rw [roleI_eq]; decide +kernel
theorem dull_loans : loansOf dullP 0 = 3 := by unfold loansOf; rw [spansI_eq]; decide +kernel
theorem dull_meet : areMeeting dullP 0 (eT [2, 12, 22]) = true := by rw [areMeeting_row, spansI_eq]; decide +kernel
theorem dull_not : areMeeting dullP 0 (eT [2, 12]) = false := by rw [areMeeting_row, spansI_eq]; decide +kernel
theorem dull_bad : areGood dullP (named dullP [0, 1]) = false := by decide +kernel
theorem tight_reason : (reasonsOf tightP [2]).head? = some (.value 1 20) := by decide +kernel
theorem tight_most : mostGranted tightP = 0 := by decide +kernel
theorem tight_role : roleR tightP 0 = .lost := by rw [roleI_eq]; decide +kernel
/-! contracts -/
def c_law_row : Ct := ⟨Nat × Int, fun a => [.int a.1, .int a.2], fun a => 1 ≤ a.1 ∧ a.1 ≤ 7 ∧ 0 ≤ a.2 ∧ a.2 ≤ 5, fun _ => Eq (.bool true)⟩
def c_law_heap : Ct := ⟨Nat, fun a => [.int a], fun a => 1 ≤ a ∧ a ≤ 4, fun _ => Eq (.bool true)⟩
def c_law_dull : Ct := ⟨Unit, fun _ => [], fun _ => True, fun _ => Eq (.bool true)⟩
end Mus

namespace Mus
open PySem PySem.Spec PyProof.Rows L2 PL
/-! ## plans with the same good wishes -/
structure Same (p q : Plan) : Prop where
  okp : p.Ok
  okq : q.Ok
  len : q.wishes.length = p.wishes.length
  gd : ∀ s, SomeOk p s → good q s = good p s
theorem Same.clash {p q : Plan} (h : Same p q) {s : List Int} (hs : SomeOk p s) : isClash q s = isClash p s := by
  unfold isClash
  rw [h.gd s hs, Bool.eq_iff_iff, Bool.and_eq_true, Bool.and_eq_true, List.all_eq_true, List.all_eq_true]
  constructor
  · rintro ⟨h1, h2⟩
    exact ⟨h1, fun i hi => by rw [← h.gd _ (hs.sub (less_sub s i))]; exact h2 i hi⟩
  · rintro ⟨h1, h2⟩
    exact ⟨h1, fun i hi => by rw [h.gd _ (hs.sub (less_sub s i))]; exact h2 i hi⟩
theorem Same.clashes {p q : Plan} (h : Same p q) : clashesOf q = clashesOf p := by
  unfold clashesOf
  rw [h.len]
  congr 1
  exact List.filter_congr fun s hs => h.clash (subs_some.mp hs)
theorem Same.goods {p q : Plan} (h : Same p q) : goodOnes q = goodOnes p := by
  unfold goodOnes
  rw [h.len]
  exact List.filter_congr fun s hs => h.gd s (subs_some.mp hs)
theorem Same.largest {p q : Plan} (h : Same p q) : largest q = largest p := by unfold Mus.largest; rw [h.goods]
theorem Same.best {p q : Plan} (h : Same p q) : best q = best p := by unfold Mus.best; rw [h.largest]
/-! ## some weeks later (k27) -/
def shiftW (b : Int) (w : Wish) : Wish := ⟨w.house, w.item, w.first + b, w.last + b⟩
def laterP (p : Plan) (b : Int) : Plan := ⟨p.houses, p.objects, p.wishes.map (shiftW b)⟩
structure Late (p : Plan) (b : Int) : Prop where
  ok : p.Ok
  b0 : 0 ≤ b
  hi : ∀ w ∈ p.wishes, w.last + b ≤ 60
section
variable {p : Plan} {b : Int}
theorem Late.okq (h : Late p b) : (laterP p b).Ok := by
  refine ⟨h.ok.h1, h.ok.h4, h.ok.hs, h.ok.o1, h.ok.o4, h.ok.os, ?_, fun w hw => ?_⟩
  · show (p.wishes.map (shiftW b)).length ≤ 8
    rw [List.length_map]; exact h.ok.w8
  · obtain ⟨v, hv, rfl⟩ := List.mem_map.mp hw
    have k := h.ok.ws v hv
    have b0 := h.b0
    have := k.f0
    have := k.fl
    exact ⟨k.h0, k.h1, k.i0, k.i1, k.ne, by show 0 ≤ v.first + b; omega, by show v.first + b ≤ v.last + b; omega, h.hi v hv⟩
theorem later_len : (laterP p b).wishes.length = p.wishes.length := List.length_map _
theorem later_some {s : List Int} : SomeOk (laterP p b) s ↔ SomeOk p s := by
  constructor
  · intro h; exact ⟨h.lo, fun x hx => by have := h.hi x hx; rw [later_len] at this; exact this, h.as⟩
  · intro h; exact ⟨h.lo, fun x hx => by rw [later_len]; exact h.hi x hx, h.as⟩
theorem later_wish {x : Int} (h0 : 0 ≤ x) (h1 : x < p.wishes.length) : (laterP p b).wish x = shiftW b (p.wish x) := by
  unfold Plan.wish laterP
  exact getD_map (shiftW b) p.wishes x.toNat _ _ (by omega)
theorem later_named {s : List Int} (hs : SomeOk p s) : named (laterP p b) s = (named p s).map (shiftW b) := by
  unfold named
  rw [List.map_map]
  exact List.map_congr_left fun x hx => later_wish (hs.lo x hx) (hs.hi x hx)
theorem shift_rest (a c : Wish) (r : Int) : doRest (shiftW b a) (shiftW b c) r = doRest a c r := by
  unfold doRest shiftW
  rw [Bool.eq_iff_iff]
  simp only [Bool.or_eq_true, decide_eq_true_eq]
  omega
theorem shift_tired (a c : Wish) : tiredB p (shiftW b a) (shiftW b c) = tiredB p a c := by
  unfold tiredB
  rw [shift_rest]; rfl
theorem shift_weeks (ws : List Wish) (i : Int) : weeksOf (ws.map (shiftW b)) i = weeksOf ws i := by
  unfold weeksOf
  rw [filter_map', List.map_map]
  congr 1
  refine List.map_congr_left fun w _ => ?_
  show w.last + b - (w.first + b) + 1 = _
  omega
theorem shift_value (ws : List Wish) (h k : Int) : valueAt p (ws.map (shiftW b)) h k = valueAt p ws h (k - b) := by
  unfold valueAt thereIn
  rw [filter_map', List.map_map]
  congr 1
  have e : ((fun w => decide (w.house = h) && (decide (w.first ≤ k) && decide (k ≤ w.last))) ∘ shiftW b) = fun w => decide (w.house = h) && (decide (w.first ≤ k - b) && decide (k - b ≤ w.last)) := by
    funext w
    show (decide (w.house = h) && (decide (w.first + b ≤ k) && decide (k ≤ w.last + b))) = _
    rw [Bool.eq_iff_iff]
    simp only [Bool.and_eq_true, decide_eq_true_eq]
    omega
  rw [e]
  exact List.map_congr_left fun w _ => rfl
/-- where nothing is shown -/
theorem value_out {ws : List Wish} {h k : Int} (ho : ∀ w ∈ ws, ¬ (w.first ≤ k ∧ k ≤ w.last)) : valueAt p ws h k = 0 := by
  unfold valueAt thereIn
  rw [List.filter_eq_nil_iff.mpr]
  · rfl
  · intro w hw
    simp only [Bool.and_eq_true, decide_eq_true_eq]
    exact fun z => ho w hw z.2
theorem mem_named {s : List Int} (hs : SomeOk p s) {w : Wish} (hw : w ∈ named p s) : w ∈ p.wishes := by
  obtain ⟨x, hx, rfl⟩ := List.mem_map.mp hw
  exact p.wish_mem (hs.lo x hx) (hs.hi x hx)
theorem Late.out (l : Late p b) {s : List Int} (hs : SomeOk p s) {h k : Int} (hk : k < 0 ∨ 60 - b < k) : valueAt p (named p s) h k = 0 := value_out fun w hw z => by
  have h1 := mem_named hs hw
  have := l.hi w h1
  have := (l.ok.ws w h1).f0
  omega
theorem lim0 (hp : p.Ok) {h : Int} (h0 : 0 ≤ h) (h1 : h < p.houses.length) : 0 ≤ p.lim h := (hp.hs _ (getD_mem 0 h0 h1)).1
theorem Late.good (l : Late p b) {s : List Int} (hs : SomeOk p s) : good (laterP p b) s = Mus.good p s := by
  have hs' := later_some (b := b) |>.mpr hs
  have b0 := l.b0
  rw [← good_eq l.okq hs', ← good_eq l.ok hs, later_named hs, areGood_cong (p := p) (q := laterP p b) rfl rfl, Bool.eq_iff_iff]
  have g : GoodWs p ((named p s).map (shiftW b)) := by
    have := hs'.gw l.okq
    rw [later_named hs] at this
    exact ⟨this.it, this.wk⟩
  rw [areGood_iff l.ok g, areGood_iff l.ok (hs.gw l.ok)]
  constructor
  · rintro ⟨h1, h2, h3⟩
    refine ⟨?_, fun i i0 i1 => by rw [← shift_weeks (b := b)]; exact h2 i i0 i1, fun h k a0 a1 k0 k1 => ?_⟩
    · rw [List.pairwise_map] at h1
      exact h1.imp fun {a c} q => by rw [← shift_tired (b := b)]; exact q
    · by_cases c : k + b ≤ 60
      · have := h3 h (k + b) a0 a1 (by omega) c
        rw [shift_value, show k + b - b = k by omega] at this
        exact this
      · rw [l.out hs (by omega)]; exact lim0 l.ok a0 a1
  · rintro ⟨h1, h2, h3⟩
    refine ⟨?_, fun i i0 i1 => by rw [shift_weeks]; exact h2 i i0 i1, fun h k a0 a1 k0 k1 => ?_⟩
    · rw [List.pairwise_map]
      exact h1.imp fun {a c} q => by rw [shift_tired]; exact q
    · rw [shift_value]
      by_cases c : 0 ≤ k - b
      · exact h3 h (k - b) a0 a1 c (by omega)
      · rw [l.out hs (by omega)]; exact lim0 l.ok a0 a1
theorem Late.same (l : Late p b) : Same p (laterP p b) := ⟨l.ok, l.okq, later_len, fun s hs => l.good hs⟩
/-! reasons -/
def shiftR (b : Int) : Reason → Reason
  | .value h k => .value h (k + b)
  | r => r
theorem wAt_map (f : Wish → Wish) {ws : List Wish} {t : Int} (h0 : 0 ≤ t) (h1 : t < ws.length) : wAt (ws.map f) t = f (wAt ws t) := getD_map f ws t.toNat _ _ (by omega)
theorem tired_map (f : Wish → Wish) (hf : ∀ a c, tiredB p (f a) (f c) = tiredB p a c) (ws : List Wish) : tired p (ws.map f) = tired p ws := by
  unfold tired
  rw [List.zipIdx_map, List.flatMap_map]
  refine flatMap_cg fun x hx => ?_
  obtain ⟨w, i⟩ := x
  show (tiredRow p (ws.map f) (f w) i).map (fun t => ((i : Int), t)) = (tiredRow p ws w i).map fun t => ((i : Int), t)
  congr 1
  unfold tiredRow
  rw [List.length_map]
  refine List.filter_congr fun t ht => ?_
  have := rangeD_mem.mp ht
  rw [wAt_map f (by omega) (by omega), hf]
theorem crowd_later (l : Late p b) {s : List Int} (hs : SomeOk p s) {L h : Int} (hL : 0 ≤ L) : crowdRow p ((named p s).map (shiftW b)) L h = (crowdRow p (named p s) L h).map fun k => k + b := by
  have b0 := l.b0
  have a1 : asc (crowdRow p ((named p s).map (shiftW b)) L h) = true := asc_filter ((asc_iff _).mpr (asc_range _ _)) _
  have a2 : asc ((crowdRow p (named p s) L h).map fun k => k + b) = true := by
    rw [asc_iff, List.pairwise_map]
    have := (asc_iff _).mp (asc_filter ((asc_iff _).mpr (asc_range 0 61)) fun k => decide (L < valueAt p (named p s) h k))
    exact this.imp fun h => by omega
  refine asc_ext a1 a2 fun k => ?_
  unfold crowdRow
  rw [List.mem_filter, rangeD_mem, List.mem_map, shift_value, decide_eq_true_iff]
  constructor
  · rintro ⟨h1, h2⟩
    have c : ¬ (k - b < 0 ∨ 60 - b < k - b) := fun z => by rw [l.out hs z] at h2; omega
    exact ⟨k - b, List.mem_filter.mpr ⟨rangeD_mem.mpr (by omega), decide_eq_true h2⟩, by omega⟩
  · rintro ⟨j, hj, rfl⟩
    obtain ⟨h1, h2⟩ := List.mem_filter.mp hj
    have h1' := rangeD_mem.mp h1
    have h2' := of_decide_eq_true h2
    have c : ¬ (j < 0 ∨ 60 - b < j) := fun z => by rw [l.out hs z] at h2'; omega
    rw [show j + b - b = j by omega]
    exact ⟨by omega, h2'⟩
theorem reasons_later (l : Late p b) {s : List Int} (hs : SomeOk p s) : reasonsOf (laterP p b) s = (reasonsOf p s).map (shiftR b) := by
  unfold reasonsOf
  rw [later_named hs]
  have e1 : bleached (laterP p b) ((named p s).map (shiftW b)) = bleached p (named p s) := by
    unfold bleached
    refine List.filter_congr fun i _ => ?_
    rw [shift_weeks]; rfl
  have e2 : tired (laterP p b) ((named p s).map (shiftW b)) = tired p (named p s) := tired_map (p := p) (shiftW b) (fun a c => shift_tired a c) (named p s)
  have e3 : crowded (laterP p b) ((named p s).map (shiftW b)) = (crowded p (named p s)).map fun x => (x.1, x.2 + b) := by
    unfold crowded
    rw [List.map_flatMap]
    refine flatMap_cg fun x hx => ?_
    have hx1 : x.1 ∈ p.houses := by
      obtain ⟨i, hi⟩ := List.getElem?_of_mem hx
      exact List.mem_of_getElem? (zipIdx_get hi).1
    show (crowdRow p ((named p s).map (shiftW b)) x.1 x.2).map _ = _
    rw [crowd_later l hs (l.ok.hs _ hx1).1, List.map_map, List.map_map]
    rfl
  rw [e1, e2, e3, List.map_append, List.map_append, List.map_map, List.map_map, List.map_map, List.map_map]
  rfl
/-! limits, light, rest -/
theorem later_value (s : List Int) (hs : SomeOk p s) (h k : Int) : valueAt (laterP p b) (named (laterP p b) s) h k = valueAt p (named p s) h (k - b) := by
  rw [later_named hs]
  exact shift_value (named p s) h k
theorem limit_later (l : Late p b) {s : List Int} (hs : SomeOk p s) (h : Int) : leastLimit (laterP p b) s h = leastLimit p s h := by
  have b0 := l.b0
  have n1 := limit_nonneg l.ok hs h
  have n2 := limit_nonneg l.okq (later_some.mpr hs) h
  refine Int.le_antisymm ?_ ?_
  · obtain ⟨k, k0, k1, e⟩ := limit_at (laterP p b) s h
    rw [later_value s hs] at e
    by_cases c : 0 ≤ k - b
    · have := limit_ge p s h c (by omega)
      omega
    · rw [l.out hs (by omega)] at e; omega
  · obtain ⟨k, k0, k1, e⟩ := limit_at p s h
    by_cases c : k + b ≤ 60
    · have := limit_ge (laterP p b) s h (k := k + b) (by omega) c
      rw [later_value s hs, show k + b - b = k by omega] at this
      omega
    · rw [l.out hs (by omega)] at e; omega
theorem light_later {s : List Int} (hs : SomeOk p s) (i : Int) : leastLight (laterP p b) s i = leastLight p s i := by
  unfold leastLight
  rw [later_named hs, shift_weeks]
theorem item_later {s : List Int} (hs : SomeOk p s) (i : Int) : itemW (laterP p b) s i = (itemW p s i).map (shiftW b) := by
  unfold itemW
  rw [later_named hs, filter_map']; rfl
theorem rests_map (f : Wish → Wish) (hf : ∀ a c r, doRest (f a) (f c) r = doRest a c r) (r : Int) : ∀ l : List Wish, restsBetween r (l.map f) = restsBetween r l
  | [] => rfl
  | a :: l => by
    show ((l.map f).all (fun c => doRest (f a) c r) && restsBetween r (l.map f)) = (l.all (fun c => doRest a c r) && restsBetween r l)
    rw [rests_map f hf r l, List.all_map]
    congr 2
    funext c
    exact hf a c r
theorem rest_later {s : List Int} (hs : SomeOk p s) (i : Int) : mostRest (laterP p b) s i = mostRest p s i := by
  have e : restsOk (laterP p b) s i = restsOk p s i := by
    unfold restsOk
    refine List.filter_congr fun r _ => ?_
    rw [item_later hs, rests_map (shiftW b) fun a c r => shift_rest a c r]
  unfold mostRest
  rw [e]
/-! spans -/
def shiftS (b : Int) (s : Span) : Span := (s.1 + b, s.2 + b)
theorem sortP_shift (l : List (Int × Int)) : sortP (l.map (shiftS b)) = (sortP l).map (shiftS b) := by
  unfold sortP
  rw [← List.map_mergeSort (r := fun a b => !pairLt b a) (s := fun a b => !pairLt b a) (f := shiftS b) (fun x _ y _ => by
    congr 1
    unfold pairLt shiftS
    rw [Bool.eq_iff_iff]
    simp only [Bool.or_eq_true, Bool.and_eq_true, decide_eq_true_eq]
    omega)]
theorem spans_later (i : Int) : spansOf (laterP p b) i = (spansOf p i).map (shiftS b) := by
  have e : endsOf (laterP p b) i = (endsOf p i).map (shiftS b) := by
    unfold endsOf
    show ((p.wishes.map (shiftW b)).filter _).map _ = _
    rw [filter_map', List.map_map, List.map_map]
    refine List.map_congr_left fun w _ => ?_
    show (w.last + b + (p.obj i).rest, w.first + b) = (w.last + (p.obj i).rest + b, w.first + b)
    congr 1; omega
  unfold spansOf
  rw [e, sortP_shift, List.map_map, List.map_map]
  rfl
theorem greedy_shift : ∀ (l : List Span) (o : Option Int), greedy (o.map fun x => x + b) (l.map (shiftS b)) = (greedy o l).map fun x => x + b
  | [], o => by simp [greedy]
  | s :: l, o => by
    have e : after (o.map fun x => x + b) (shiftS b s).1 = after o s.1 := by
      cases o with
      | none => rfl
      | some x =>
        show decide (x + b < s.1 + b) = decide (x < s.1)
        rw [Bool.eq_iff_iff, decide_eq_true_iff, decide_eq_true_iff]; omega
    have i1 := greedy_shift l (some s.2)
    have i2 := greedy_shift l o
    rw [List.map_cons, greedy_cons, greedy_cons, e]
    split
    · rw [List.map_cons, ← i1]; rfl
    · exact i2
theorem loans_later (i : Int) : loansOf (laterP p b) i = loansOf p i := by
  unfold loansOf
  rw [spans_later]
  have := greedy_shift (b := b) (spansOf p i) none
  have e : endsMet ((spansOf p i).map (shiftS b)) = (endsMet (spansOf p i)).map fun x => x + b := this
  rw [e, List.length_map]
theorem meets_shift (l : List Span) (ks : List Int) : meets (l.map (shiftS b)) (ks.map fun x => x + b) = meets l ks := by
  rw [Bool.eq_iff_iff, meets_iff, meets_iff]
  constructor
  · intro h s hs
    obtain ⟨k, hk, h1, h2⟩ := h _ (List.mem_map.mpr ⟨s, hs, rfl⟩)
    obtain ⟨j, hj, rfl⟩ := List.mem_map.mp hk
    exact ⟨j, hj, by have : s.1 + b ≤ j + b := h1; omega, by have : j + b ≤ s.2 + b := h2; omega⟩
  · intro h s hs
    obtain ⟨t, ht, rfl⟩ := List.mem_map.mp hs
    obtain ⟨k, hk, h1, h2⟩ := h t ht
    exact ⟨k + b, List.mem_map.mpr ⟨k, hk, rfl⟩, by show t.1 + b ≤ k + b; omega, by show k + b ≤ t.2 + b; omega⟩
theorem meeting_later (hp : p.Ok) {i : Int} (hi : InObj p i) : areMeeting (laterP p b) i (eT ((meetingWeeks p i).map fun x => x + b)) = true := by
  obtain ⟨_, h2, h3⟩ := meeting_is hp hi
  rw [areMeeting_row, spans_later, meets_shift, h3, Bool.and_true]
  rw [asc_iff] at h2 ⊢
  rw [List.pairwise_map]
  exact h2.imp fun h => by omega
/-! journeys -/
theorem tripsOn_map (f : Wish → Wish) (wait : Int) (hf : ∀ a c, tripStep wait (f a) (f c) = tripStep wait a c) : ∀ l : List Wish, tripsOn wait (l.map f) = tripsOn wait l
  | [] => rfl
  | [_] => rfl
  | a :: c :: l => by
    show tripStep wait (f a) (f c) + tripsOn wait ((c :: l).map f) = tripStep wait a c + tripsOn wait (c :: l)
    rw [hf, tripsOn_map f wait hf (c :: l)]
theorem sortW_shift (l : List Wish) : sortW (l.map (shiftW b)) = (sortW l).map (shiftW b) := by
  refine sortW_uniq (sortW_sorted _) ?_ ((sortW_perm _).trans ((sortW_perm l).symm.map (shiftW b)))
  rw [List.pairwise_map]
  refine (sortW_sorted l).imp fun {x y} h => ?_
  rw [← h]
  have h1 : decide (y.first + b < x.first + b) = decide (y.first < x.first) := by rw [Bool.eq_iff_iff, decide_eq_true_iff, decide_eq_true_iff]; omega
  have h2 : decide (y.first + b = x.first + b) = decide (y.first = x.first) := by rw [Bool.eq_iff_iff, decide_eq_true_iff, decide_eq_true_iff]; omega
  have h3 : decide (y.last + b < x.last + b) = decide (y.last < x.last) := by rw [Bool.eq_iff_iff, decide_eq_true_iff, decide_eq_true_iff]; omega
  have h4 : decide (y.last + b = x.last + b) = decide (y.last = x.last) := by rw [Bool.eq_iff_iff, decide_eq_true_iff, decide_eq_true_iff]; omega
  rw [wLt_row, wLt_row]
  unfold wRow shiftW
  simp only [ltR, h1, h2, h3, h4]
theorem trips_shift (l : List Wish) (wait : Int) : trips (sortW (l.map (shiftW b))) wait = trips (sortW l) wait := by
  rw [sortW_shift]
  unfold trips
  rw [List.isEmpty_map, tripsOn_map (shiftW b) wait fun a c => by
    unfold tripStep shiftW
    simp only
    rw [show c.first + b - (a.last + b) - 1 = c.first - a.last - 1 by omega]]
theorem journeys_later {s : List Int} (hs : SomeOk p s) (wait : Int) : journeysOf (laterP p b) s wait = journeysOf p s wait := by
  unfold journeysOf journeysN itemTrips
  show ((rangeD 0 p.objects.length).map _).sum = _
  congr 1
  refine List.map_congr_left fun i _ => ?_
  rw [item_later hs, trips_shift]
/-! first weeks -/
theorem fits_later (l : Late p b) {s : List Int} (hs : SomeOk p s) {h i weeks k : Int} (hl : LoanOk p h i weeks) (k0 : 0 ≤ k) (k1 : k + b + weeks ≤ 61) : fitsAt (laterP p b) s h i weeks (k + b) = fitsAt p s h i weeks k := by
  have b0 := l.b0
  have w0 := hl.w0
  have e : named (laterP p b) s ++ [newW h i weeks (k + b)] = (named p s ++ [newW h i weeks k]).map (shiftW b) := by
    rw [List.map_append, later_named hs]
    congr 1
    show [newW h i weeks (k + b)] = [shiftW b (newW h i weeks k)]
    unfold newW shiftW
    congr 2
    show k + b + weeks - 1 = k + weeks - 1 + b
    omega
  have hs' : SomeOk (laterP p b) s := later_some.mpr hs
  have hl' : LoanOk (laterP p b) h i weeks := ⟨hl.h0, hl.h1, hl.ob, hl.ne, hl.w0, hl.w1⟩
  have g1 := new_gw l.ok hs hl k0 (by omega)
  have g2 : GoodWs p ((named p s ++ [newW h i weeks k]).map (shiftW b)) := by
    have := new_gw l.okq hs' hl' (k := k + b) (by omega) (by omega)
    rw [e] at this
    exact ⟨this.it, this.wk⟩
  have out : ∀ h' k', (k' < 0 ∨ 60 - b < k') → valueAt p (named p s ++ [newW h i weeks k]) h' k' = 0 := fun h' k' hk => value_out fun w hw z => by
    rcases List.mem_append.mp hw with q | q
    · have h1 := mem_named hs q
      have := l.hi w h1
      have := (l.ok.ws w h1).f0
      omega
    · rw [List.mem_singleton.mp q] at z
      have z1 : k ≤ k' := z.1
      have z2 : k' ≤ k + weeks - 1 := z.2
      omega
  unfold fitsAt
  rw [e, areGood_cong (p := p) (q := laterP p b) rfl rfl, Bool.eq_iff_iff, areGood_iff l.ok g2, areGood_iff l.ok g1]
  generalize named p s ++ [newW h i weeks k] = ws at out
  constructor
  · rintro ⟨h1, h2, h3⟩
    refine ⟨?_, fun i i0 i1 => by rw [← shift_weeks (b := b)]; exact h2 i i0 i1, fun h k a0 a1 k0 k1 => ?_⟩
    · rw [List.pairwise_map] at h1
      exact h1.imp fun {a c} q => by rw [← shift_tired (b := b)]; exact q
    · by_cases c : k + b ≤ 60
      · have := h3 h (k + b) a0 a1 (by omega) c
        rw [shift_value, show k + b - b = k by omega] at this
        exact this
      · rw [out _ _ (by omega)]; exact lim0 l.ok a0 a1
  · rintro ⟨h1, h2, h3⟩
    refine ⟨?_, fun i i0 i1 => by rw [shift_weeks]; exact h2 i i0 i1, fun h k a0 a1 k0 k1 => ?_⟩
    · rw [List.pairwise_map]
      exact h1.imp fun {a c} q => by rw [shift_tired]; exact q
    · rw [shift_value]
      by_cases c : 0 ≤ k - b
      · exact h3 h (k - b) a0 a1 c (by omega)
      · rw [out _ _ (by omega)]; exact lim0 l.ok a0 a1
/-- the first weeks are as much later -/
theorem first_later (l : Late p b) {s : List Int} (hs : SomeOk p s) {h i : Int} (hl : LoanOk p h i 3) : (∀ k, firstWeek p s h i 3 0 = some k → k + b < 58 → firstWeek (laterP p b) s h i 3 b = some (k + b)) ∧ (firstWeek p s h i 3 0 = none → firstWeek (laterP p b) s h i 3 b = none) := by
  have b0 := l.b0
  constructor
  · intro k hk hlt
    obtain ⟨h1, h2, h3⟩ := find_range hk
    refine find_is (by omega) (by omega) ?_ fun y y0 y1 => ?_
    · rw [fits_later l hs hl h1.1 (by omega)]; exact h2
    · have := fits_later l hs hl (k := y - b) (by omega) (by omega)
      rw [show y - b + b = y by omega] at this
      rw [this]
      exact h3 (y - b) (by omega) (by omega)
  · intro hn
    have h3 := find_none hn
    refine List.find?_eq_none.mpr fun y hy => ?_
    have hy' := rangeD_mem.mp hy
    have := fits_later l hs hl (k := y - b) (by omega) (by omega)
    rw [show y - b + b = y by omega] at this
    rw [this, h3 (y - b) (by omega) (by omega)]
    exact Bool.false_ne_true
end
end Mus

namespace Mus
open PySem PySem.Spec PyProof.Rows L2 PL
/-! ## the houses renamed (k27) -/
theorem cutD_tom1 (xs : List PyData) : PL.cutD xs none (some (-1)) = xs.take (xs.length - 1) := by
  have h := cutD_m1 xs
  unfold PL.cutD at h ⊢
  have e : HT.sIx xs.length xs.length (some (-1)) = xs.length - 1 := by
    unfold HT.sIx
    simp
    omega
  rw [e]
  have e0 : HT.sIx xs.length 0 none = 0 := rfl
  rw [e0, List.drop_zero, Nat.sub_zero]
def renN (n h : Int) : Int := (h + 1) % n
def renW (n : Int) (w : Wish) : Wish := ⟨renN n w.house, w.item, w.first, w.last⟩
def renO (n : Int) (o : Obj) : Obj := ⟨renN n o.home, o.value, o.rest, o.light⟩
def movedP (p : Plan) : Plan := ⟨p.houses.drop (p.houses.length - 1) ++ p.houses.take (p.houses.length - 1), p.objects.map (renO p.houses.length), p.wishes.map (renW p.houses.length)⟩
theorem ren_small {n h : Int} (n1 : 1 ≤ n) (n4 : n ≤ 4) (h0 : 0 ≤ h) (h1 : h < n) : renN n h = if h = n - 1 then 0 else h + 1 := by
  unfold renN
  rcases (by omega : n = 1 ∨ n = 2 ∨ n = 3 ∨ n = 4) with e | e | e | e <;> subst e <;> split <;> omega
theorem ren_inj {n h k : Int} (n1 : 1 ≤ n) (n4 : n ≤ 4) (h0 : 0 ≤ h) (h1 : h < n) (k0 : 0 ≤ k) (k1 : k < n) : renN n h = renN n k ↔ h = k := by
  rw [ren_small n1 n4 h0 h1, ren_small n1 n4 k0 k1]
  split <;> split <;> omega
theorem ren_rng {n h : Int} (n1 : 1 ≤ n) (n4 : n ≤ 4) (h0 : 0 ≤ h) (h1 : h < n) : 0 ≤ renN n h ∧ renN n h < n := by
  rw [ren_small n1 n4 h0 h1]
  split <;> omega
theorem ren_back {n h : Int} (n1 : 1 ≤ n) (n4 : n ≤ 4) (h0 : 0 ≤ h) (h1 : h < n) : ∃ k, 0 ≤ k ∧ k < n ∧ renN n k = h := by
  by_cases c : h = 0
  · exact ⟨n - 1, by omega, by omega, by rw [ren_small n1 n4 (by omega) (by omega), if_pos rfl]; exact c.symm⟩
  · exact ⟨h - 1, by omega, by omega, by rw [ren_small n1 n4 (by omega) (by omega), if_neg (by omega)]; omega⟩
section
variable {p : Plan}
theorem moved_hl (hp : p.Ok) : (movedP p).houses.length = p.houses.length := by
  show (p.houses.drop _ ++ p.houses.take _).length = _
  rw [List.length_append, List.length_drop, List.length_take]
  have := hp.h1
  omega
theorem moved_lim (hp : p.Ok) {h : Int} (h0 : 0 ≤ h) (h1 : h < p.houses.length) : (movedP p).lim (renN p.houses.length h) = p.lim h := by
  have a1 := hp.h1
  have a4 := hp.h4
  rw [ren_small (by omega) (by omega) h0 h1]
  unfold Plan.lim movedP
  simp only [List.getD]
  have dl : (p.houses.drop (p.houses.length - 1)).length = 1 := by rw [List.length_drop]; omega
  by_cases c : h = (p.houses.length : Int) - 1
  · rw [if_pos c, List.getElem?_append_left (by rw [dl]; decide), List.getElem?_drop]
    congr 2
    show p.houses.length - 1 + Int.toNat 0 = _
    simp
    omega
  · rw [if_neg c, List.getElem?_append_right (by rw [dl]; omega), dl, List.getElem?_take_of_lt (by omega)]
    congr 2
    omega
theorem moved_obj (i : Int) : ((movedP p).obj i).rest = (p.obj i).rest ∧ ((movedP p).obj i).value = (p.obj i).value ∧ ((movedP p).obj i).light = (p.obj i).light := by
  unfold Plan.obj movedP
  by_cases c : i.toNat < p.objects.length
  · rw [getD_map (renO p.houses.length) p.objects i.toNat ⟨0, 0, 0, 0⟩ ⟨0, 0, 0, 0⟩ c]
    exact ⟨rfl, rfl, rfl⟩
  · simp only [List.getD]
    rw [List.getElem?_eq_none (by rw [List.length_map]; omega), List.getElem?_eq_none (by omega)]
    exact ⟨rfl, rfl, rfl⟩
theorem moved_home {i : Int} (h0 : 0 ≤ i) (h1 : i < p.objects.length) : ((movedP p).obj i).home = renN p.houses.length (p.obj i).home := by
  unfold Plan.obj movedP
  rw [getD_map (renO p.houses.length) p.objects i.toNat ⟨0, 0, 0, 0⟩ ⟨0, 0, 0, 0⟩ (by omega)]
  rfl
theorem moved_ol : (movedP p).objects.length = p.objects.length := List.length_map _
theorem moved_wl : (movedP p).wishes.length = p.wishes.length := List.length_map _
theorem moved_ok (hp : p.Ok) : (movedP p).Ok := by
  have hl := moved_hl hp
  have a1 := hp.h1
  have a4 := hp.h4
  refine ⟨by rw [hl]; exact hp.h1, by rw [hl]; exact hp.h4, fun x hx => ?_, by rw [moved_ol]; exact hp.o1, by rw [moved_ol]; exact hp.o4, fun o ho => ?_, by rw [moved_wl]; exact hp.w8, fun w hw => ?_⟩
  · rcases List.mem_append.mp hx with q | q
    · exact hp.hs x (List.mem_of_mem_drop q)
    · exact hp.hs x (List.mem_of_mem_take q)
  · obtain ⟨v, hv, rfl⟩ := List.mem_map.mp ho
    have k := hp.os v hv
    have r := ren_rng (n := p.houses.length) (by omega) (by omega) k.h0 k.h1
    exact ⟨r.1, by rw [hl]; exact r.2, k.v0, k.v1, k.r0, k.r1, k.l0, k.l1⟩
  · obtain ⟨v, hv, rfl⟩ := List.mem_map.mp hw
    have k := hp.ws v hv
    have r := ren_rng (n := p.houses.length) (by omega) (by omega) k.h0 k.h1
    refine ⟨r.1, by rw [hl]; exact r.2, k.i0, by rw [moved_ol]; exact k.i1, ?_, k.f0, k.fl, k.l1⟩
    show ((movedP p).obj v.item).home ≠ renN p.houses.length v.house
    rw [moved_home k.i0 k.i1]
    have ob := hp.os _ (p.obj_mem k.i0 k.i1)
    intro e
    exact k.ne ((ren_inj (by omega) (by omega) ob.h0 ob.h1 k.h0 k.h1).mp e)
theorem moved_some {s : List Int} : SomeOk (movedP p) s ↔ SomeOk p s := by
  constructor
  · intro h; exact ⟨h.lo, fun x hx => by have := h.hi x hx; rw [moved_wl] at this; exact this, h.as⟩
  · intro h; exact ⟨h.lo, fun x hx => by rw [moved_wl]; exact h.hi x hx, h.as⟩
theorem moved_named {s : List Int} (hs : SomeOk p s) : named (movedP p) s = (named p s).map (renW p.houses.length) := by
  unfold named
  rw [List.map_map]
  refine List.map_congr_left fun x hx => ?_
  unfold Plan.wish movedP
  exact getD_map (renW p.houses.length) p.wishes x.toNat _ _ (by have := hs.lo x hx; have := hs.hi x hx; omega)
theorem moved_tired (a c : Wish) (n : Int) : tiredB (movedP p) (renW n a) (renW n c) = tiredB p a c := by
  unfold tiredB
  show (decide (a.item = c.item) && !doRest (renW n a) (renW n c) ((movedP p).obj a.item).rest) = _
  rw [(moved_obj a.item).1]
  rfl
theorem moved_weeks (ws : List Wish) (n i : Int) : weeksOf (ws.map (renW n)) i = weeksOf ws i := by
  unfold weeksOf
  rw [filter_map', List.map_map]
  rfl
theorem moved_value (hp : p.Ok) {ws : List Wish} (hw : ∀ w ∈ ws, 0 ≤ w.house ∧ w.house < p.houses.length) {h k : Int} (h0 : 0 ≤ h) (h1 : h < p.houses.length) : valueAt (movedP p) (ws.map (renW p.houses.length)) (renN p.houses.length h) k = valueAt p ws h k := by
  have a1 := hp.h1
  have a4 := hp.h4
  unfold valueAt thereIn
  rw [filter_map', List.map_map]
  have e : ws.filter ((fun w => decide (w.house = renN p.houses.length h) && (decide (w.first ≤ k) && decide (k ≤ w.last))) ∘ renW p.houses.length) = ws.filter fun w => decide (w.house = h) && (decide (w.first ≤ k) && decide (k ≤ w.last)) := by
    refine List.filter_congr fun w hm => ?_
    have r := hw w hm
    show (decide (renN p.houses.length w.house = renN p.houses.length h) && _) = _
    congr 1
    rw [Bool.eq_iff_iff, decide_eq_true_iff, decide_eq_true_iff]
    exact ren_inj (by omega) (by omega) r.1 r.2 h0 h1
  rw [e]
  congr 1
  exact List.map_congr_left fun w _ => (moved_obj w.item).2.1
theorem moved_good (hp : p.Ok) {s : List Int} (hs : SomeOk p s) : good (movedP p) s = good p s := by
  have hs' := moved_some.mpr hs
  have a1 := hp.h1
  have a4 := hp.h4
  have ok := moved_ok hp
  have hw : ∀ w ∈ named p s, 0 ≤ w.house ∧ w.house < p.houses.length := fun w hw => by
    have := hp.ws w (mem_named hs hw)
    exact ⟨this.h0, this.h1⟩
  rw [← good_eq ok hs', ← good_eq hp hs, Bool.eq_iff_iff, areGood_iff ok (hs'.gw ok), areGood_iff hp (hs.gw hp), moved_named hs]
  constructor
  · rintro ⟨h1, h2, h3⟩
    refine ⟨?_, fun i i0 i1 => ?_, fun h k b0 b1 k0 k1 => ?_⟩
    · rw [List.pairwise_map] at h1
      exact h1.imp fun {a c} q => by rw [← moved_tired (n := p.houses.length)]; exact q
    · have := h2 i i0 (by rw [moved_ol]; exact i1)
      rw [moved_weeks, (moved_obj i).2.2] at this
      exact this
    · have r := ren_rng (n := p.houses.length) (by omega) (by omega) b0 b1
      have := h3 (renN p.houses.length h) k r.1 (by rw [moved_hl hp]; exact r.2) k0 k1
      rw [moved_value hp hw b0 b1, moved_lim hp b0 b1] at this
      exact this
  · rintro ⟨h1, h2, h3⟩
    refine ⟨?_, fun i i0 i1 => ?_, fun h k b0 b1 k0 k1 => ?_⟩
    · rw [List.pairwise_map]
      exact h1.imp fun {a c} q => by rw [moved_tired]; exact q
    · rw [moved_weeks, (moved_obj i).2.2]
      exact h2 i i0 (by rw [moved_ol] at i1; exact i1)
    · rw [moved_hl hp] at b1
      obtain ⟨j, j0, j1, e⟩ := ren_back (n := p.houses.length) (by omega) (by omega) b0 b1
      subst e
      rw [moved_value hp hw j0 j1, moved_lim hp j0 j1]
      exact h3 j k j0 j1 k0 k1
theorem moved_same (hp : p.Ok) : Same p (movedP p) := ⟨hp, moved_ok hp, moved_wl, fun s hs => moved_good hp hs⟩
/-! journeys -/
theorem tripsOn_mapM (f : Wish → Wish) (wait : Int) : ∀ l : List Wish, (∀ a ∈ l, ∀ c ∈ l, tripStep wait (f a) (f c) = tripStep wait a c) → tripsOn wait (l.map f) = tripsOn wait l
  | [], _ => rfl
  | [_], _ => rfl
  | a :: c :: l, h => by
    show tripStep wait (f a) (f c) + tripsOn wait ((c :: l).map f) = tripStep wait a c + tripsOn wait (c :: l)
    rw [h a List.mem_cons_self c (List.mem_cons_of_mem _ List.mem_cons_self), tripsOn_mapM f wait (c :: l) fun x hx y hy => h x (List.mem_cons_of_mem _ hx) y (List.mem_cons_of_mem _ hy)]
/-- where first weeks differ, these alone are compared -/
theorem sortW_mapF (f : Wish → Wish) (hf : ∀ w, (f w).first = w.first) {l : List Wish} (hd : l.Pairwise fun a b => a.first ≠ b.first) : sortW (l.map f) = (sortW l).map f := by
  refine sortW_uniq (sortW_sorted _) ?_ ((sortW_perm _).trans ((sortW_perm l).symm.map f))
  rw [List.pairwise_map]
  have hd' : (sortW l).Pairwise fun a b => a.first ≠ b.first := (sortW_perm l).symm.pairwise hd fun {a b} h e => h e.symm
  refine ((sortW_sorted l).and hd').imp fun {x y} ⟨h1, h2⟩ => ?_
  unfold wLt at h1 ⊢
  rw [if_neg (fun e => h2 e.symm), decide_eq_false_iff_not] at h1
  rw [if_neg (by rw [hf, hf]; exact fun e => h2 e.symm), hf, hf, decide_eq_false_iff_not]
  exact h1
theorem good_firsts (hp : p.Ok) {s : List Int} (hs : SomeOk p s) (hg : good p s = true) (i : Int) (hi : InObj p i) : (itemW p s i).Pairwise fun a b => a.first ≠ b.first := by
  have f := (areGood_iff hp (hs.gw hp)).mp ((good_eq hp hs).trans hg)
  have h1 := (items_rest (hs.wsok hp).it).mpr f.rest i hi.1 hi.2
  rw [rests_iff] at h1
  have r0 := (hp.rest0 hi).1
  refine h1.imp_of_mem fun {a b} ha hb h e => ?_
  have wa := hp.ws a (mem_named hs (List.mem_filter.mp ha).1)
  have wb := hp.ws b (mem_named hs (List.mem_filter.mp hb).1)
  have := wa.fl
  have := wb.fl
  simp only [doRest, Bool.or_eq_true, decide_eq_true_eq] at h
  omega
theorem moved_item {s : List Int} (hs : SomeOk p s) (i : Int) : itemW (movedP p) s i = (itemW p s i).map (renW p.houses.length) := by
  unfold itemW
  rw [moved_named hs, filter_map']; rfl
theorem moved_journeys (hp : p.Ok) {s : List Int} (hs : SomeOk p s) (hg : good p s = true) (wait : Int) : journeysOf (movedP p) s wait = journeysOf p s wait := by
  have a1 := hp.h1
  have a4 := hp.h4
  unfold journeysOf journeysN
  rw [moved_ol]
  congr 1
  refine List.map_congr_left fun i hi => ?_
  have hi' := rangeD_mem.mp hi
  unfold itemTrips
  rw [moved_item hs, sortW_mapF (renW p.houses.length) (fun _ => rfl) (good_firsts hp hs hg i ⟨hi'.1, by omega⟩)]
  unfold trips
  rw [List.isEmpty_map, tripsOn_mapM]
  intro a ha c hc
  have wa := hp.ws a (mem_named hs (List.mem_filter.mp ((sortW_perm _).mem_iff.mp ha)).1)
  have wc := hp.ws c (mem_named hs (List.mem_filter.mp ((sortW_perm _).mem_iff.mp hc)).1)
  have e := ren_inj (n := p.houses.length) (by omega) (by omega) wc.h0 wc.h1 wa.h0 wa.h1
  unfold tripStep renW
  simp only [e]
end
def c_law_told27 : Ct := ⟨Plan × Int × List Int, fun a => [eP a.1, eP (laterP a.1 a.2.1), eT a.2.2, .int a.2.1], fun a => Late a.1 a.2.1 ∧ a.2.1 ≤ 60 ∧ SomeOk a.1 a.2.2, fun _ => Eq (.bool true)⟩
end Mus

namespace Mus
open PySem PySem.Spec PyProof.Rows L2 PL
/-! ## two plans put together (k30) -/
def mv (n : Int) (r : List Int) : List Int := r.map fun x => x + n
def togW (h o : Int) (w : Wish) : Wish := ⟨w.house + h, w.item + o, w.first, w.last⟩
def togO (h : Int) (o : Obj) : Obj := ⟨o.home + h, o.value, o.rest, o.light⟩
def tog (a c : Plan) : Plan := ⟨a.houses ++ c.houses, a.objects ++ c.objects.map (togO a.houses.length), a.wishes ++ c.wishes.map (togW a.houses.length a.objects.length)⟩
structure Tg (a c : Plan) : Prop where
  oka : a.Ok
  okc : c.Ok
  hl : a.houses.length + c.houses.length ≤ 4
  ol : a.objects.length + c.objects.length ≤ 4
  wl : a.wishes.length + c.wishes.length ≤ 8
theorem mv_len (n : Int) (r : List Int) : (mv n r).length = r.length := List.length_map _
theorem mv_mem {n x : Int} {r : List Int} : x ∈ mv n r ↔ x - n ∈ r := by
  unfold mv
  rw [List.mem_map]
  constructor
  · rintro ⟨y, hy, rfl⟩
    rw [show y + n - n = y by omega]; exact hy
  · intro h
    exact ⟨x - n, h, by omega⟩
section
variable {a c : Plan}
theorem tog_hl : (tog a c).houses.length = a.houses.length + c.houses.length := List.length_append
theorem tog_ol : (tog a c).objects.length = a.objects.length + c.objects.length := by
  show (a.objects ++ c.objects.map _).length = _
  rw [List.length_append, List.length_map]
theorem tog_wl : (tog a c).wishes.length = a.wishes.length + c.wishes.length := by
  show (a.wishes ++ c.wishes.map _).length = _
  rw [List.length_append, List.length_map]
theorem getD_app_l {α : Type} (l m : List α) (i : Nat) (d : α) (h : i < l.length) : (l ++ m).getD i d = l.getD i d := by
  simp only [List.getD]
  rw [List.getElem?_append_left h]
theorem getD_app_r {α : Type} (l m : List α) (i : Nat) (d : α) : (l ++ m).getD (l.length + i) d = m.getD i d := by
  simp only [List.getD]
  rw [List.getElem?_append_right (by omega)]
  congr 2
  omega
theorem tog_obj1 {i : Int} (h0 : 0 ≤ i) (h1 : i < a.objects.length) : (tog a c).obj i = a.obj i := by
  unfold Plan.obj tog
  exact getD_app_l _ _ _ _ (by omega)
theorem tog_obj2 {i : Int} (h0 : 0 ≤ i) (h1 : i < c.objects.length) : (tog a c).obj (i + a.objects.length) = togO a.houses.length (c.obj i) := by
  unfold Plan.obj tog
  rw [show (i + (a.objects.length : Int)).toNat = a.objects.length + i.toNat by omega]
  rw [getD_app_r]
  exact getD_map _ _ _ _ _ (by omega)
theorem tog_lim1 {h : Int} (h0 : 0 ≤ h) (h1 : h < a.houses.length) : (tog a c).lim h = a.lim h := by
  unfold Plan.lim tog
  exact getD_app_l _ _ _ _ (by omega)
theorem tog_lim2 {h : Int} (h0 : 0 ≤ h) : (tog a c).lim (h + a.houses.length) = c.lim h := by
  unfold Plan.lim tog
  rw [show (h + (a.houses.length : Int)).toNat = a.houses.length + h.toNat by omega]
  exact getD_app_r _ _ _ _
theorem tog_wish1 {x : Int} (h0 : 0 ≤ x) (h1 : x < a.wishes.length) : (tog a c).wish x = a.wish x := by
  unfold Plan.wish tog
  exact getD_app_l _ _ _ _ (by omega)
theorem tog_wish2 {x : Int} (h0 : 0 ≤ x) (h1 : x < c.wishes.length) : (tog a c).wish (x + a.wishes.length) = togW a.houses.length a.objects.length (c.wish x) := by
  unfold Plan.wish tog
  rw [show (x + (a.wishes.length : Int)).toNat = a.wishes.length + x.toNat by omega]
  rw [getD_app_r]
  exact getD_map _ _ _ _ _ (by omega)
theorem tog_ok (t : Tg a c) : (tog a c).Ok := by
  obtain ⟨ka, kc, h1, h2, h3⟩ := t
  have e1 := tog_hl (a := a) (c := c)
  have e2 := tog_ol (a := a) (c := c)
  have e3 := tog_wl (a := a) (c := c)
  have a1 := ka.h1
  have a2 := ka.o1
  refine ⟨by omega, by omega, fun x hx => ?_, by omega, by omega, fun o ho => ?_, by omega, fun w hw => ?_⟩
  · rcases List.mem_append.mp hx with q | q
    · exact ka.hs x q
    · exact kc.hs x q
  · rcases List.mem_append.mp ho with q | q
    · have k := ka.os o q
      have := k.h1
      exact ⟨k.h0, by omega, k.v0, k.v1, k.r0, k.r1, k.l0, k.l1⟩
    · obtain ⟨v, hv, rfl⟩ := List.mem_map.mp q
      have k := kc.os v hv
      have := k.h0
      have := k.h1
      exact ⟨by show 0 ≤ v.home + _; omega, by show v.home + _ < _; omega, k.v0, k.v1, k.r0, k.r1, k.l0, k.l1⟩
  · rcases List.mem_append.mp hw with q | q
    · have k := ka.ws w q
      have := k.h1
      have := k.i1
      refine ⟨k.h0, by omega, k.i0, by omega, ?_, k.f0, k.fl, k.l1⟩
      rw [tog_obj1 k.i0 k.i1]; exact k.ne
    · obtain ⟨v, hv, rfl⟩ := List.mem_map.mp q
      have k := kc.ws v hv
      have := k.h0
      have := k.h1
      have := k.i0
      have := k.i1
      refine ⟨by show 0 ≤ v.house + _; omega, by show v.house + _ < _; omega, by show 0 ≤ v.item + _; omega, by show v.item + _ < _; omega, ?_, k.f0, k.fl, k.l1⟩
      show ((tog a c).obj (v.item + _)).home ≠ v.house + _
      rw [tog_obj2 k.i0 k.i1]
      have := k.ne
      show (c.obj v.item).home + _ ≠ _
      omega
/-- some wishes of both -/
def join (a : Plan) (r1 r2 : List Int) : List Int := r1 ++ mv a.wishes.length r2
theorem join_some {r1 r2 : List Int} (h1 : SomeOk a r1) (h2 : SomeOk c r2) : SomeOk (tog a c) (join a r1 r2) := by
  have e3 := tog_wl (a := a) (c := c)
  refine ⟨fun x hx => ?_, fun x hx => ?_, ?_⟩
  · rcases List.mem_append.mp hx with q | q
    · exact h1.lo x q
    · have := h2.lo _ (mv_mem.mp q); omega
  · rcases List.mem_append.mp hx with q | q
    · have := h1.hi x q; omega
    · have := h2.hi _ (mv_mem.mp q); omega
  · rw [asc_iff]
    unfold join mv
    rw [List.pairwise_append, List.pairwise_map]
    refine ⟨(asc_iff _).mp h1.as, ((asc_iff _).mp h2.as).imp fun h => by omega, fun x hx y hy => ?_⟩
    have := h1.hi x hx
    have := h2.lo _ (mv_mem.mp hy)
    omega
theorem join_ex {s : List Int} (h : SomeOk (tog a c) s) : ∃ r1 r2, SomeOk a r1 ∧ SomeOk c r2 ∧ s = join a r1 r2 := by
  have e3 := tog_wl (a := a) (c := c)
  have s1 : SomeOk a (s.filter fun x => decide (x < (a.wishes.length : Int))) := ⟨fun x hx => h.lo x (List.mem_filter.mp hx).1, fun x hx => of_decide_eq_true (List.mem_filter.mp hx).2, asc_filter h.as _⟩
  have s2 : SomeOk c ((s.filter fun x => decide ((a.wishes.length : Int) ≤ x)).map fun x => x - a.wishes.length) := by
    refine ⟨fun x hx => ?_, fun x hx => ?_, ?_⟩
    · obtain ⟨y, hy, rfl⟩ := List.mem_map.mp hx
      have := of_decide_eq_true (List.mem_filter.mp hy).2
      omega
    · obtain ⟨y, hy, rfl⟩ := List.mem_map.mp hx
      have := h.hi y (List.mem_filter.mp hy).1
      omega
    · rw [asc_iff, List.pairwise_map]
      exact ((asc_iff _).mp (asc_filter h.as _)).imp fun h => by omega
  refine ⟨_, _, s1, s2, asc_ext h.as (join_some s1 s2).as fun x => ?_⟩
  unfold join
  rw [List.mem_append, List.mem_filter, mv_mem, List.mem_map]
  constructor
  · intro hx
    by_cases q : x < (a.wishes.length : Int)
    · exact Or.inl ⟨hx, decide_eq_true q⟩
    · exact Or.inr ⟨x, List.mem_filter.mpr ⟨hx, decide_eq_true (by omega)⟩, rfl⟩
  · rintro (hx | ⟨y, hy, e⟩)
    · exact hx.1
    · have : y = x := by omega
      rw [← this]; exact (List.mem_filter.mp hy).1
theorem join_named {r1 r2 : List Int} (h1 : SomeOk a r1) (h2 : SomeOk c r2) : named (tog a c) (join a r1 r2) = named a r1 ++ (named c r2).map (togW a.houses.length a.objects.length) := by
  unfold named join mv
  rw [List.map_append, List.map_map, List.map_map]
  congr 1
  · exact List.map_congr_left fun x hx => tog_wish1 (h1.lo x hx) (h1.hi x hx)
  · exact List.map_congr_left fun x hx => tog_wish2 (h2.lo x hx) (h2.hi x hx)
theorem weeksOf_app (x y : List Wish) (i : Int) : weeksOf (x ++ y) i = weeksOf x i + weeksOf y i := by
  unfold weeksOf
  rw [List.filter_append, List.map_append, List.sum_append]
theorem valueAt_app (p : Plan) (x y : List Wish) (h k : Int) : valueAt p (x ++ y) h k = valueAt p x h k + valueAt p y h k := by
  unfold valueAt thereIn
  rw [List.filter_append, List.map_append, List.sum_append]
theorem weeksOf_none {x : List Wish} {i : Int} (h : ∀ w ∈ x, w.item ≠ i) : weeksOf x i = 0 := by
  unfold weeksOf
  rw [List.filter_eq_nil_iff.mpr fun w hw => by simpa using h w hw]; rfl
theorem valueAt_none {p : Plan} {x : List Wish} {h k : Int} (hn : ∀ w ∈ x, w.house ≠ h) : valueAt p x h k = 0 := by
  unfold valueAt thereIn
  rw [List.filter_eq_nil_iff.mpr fun w hw => by simp [hn w hw]]; rfl
/-- wishes of a plan -/
def Of (p : Plan) (ws : List Wish) : Prop := ∀ w ∈ ws, w.Ok p
theorem of_named {p : Plan} (hp : p.Ok) {s : List Int} (hs : SomeOk p s) : Of p (named p s) := fun w hw => hp.ws w (mem_named hs hw)
theorem tog_weeks1 {A C : List Wish} (hC : Of c C) {i : Int} (i1 : i < a.objects.length) : weeksOf (A ++ C.map (togW a.houses.length a.objects.length)) i = weeksOf A i := by
  rw [weeksOf_app, weeksOf_none (x := C.map _), Int.add_zero]
  intro w hw
  obtain ⟨v, hv, rfl⟩ := List.mem_map.mp hw
  have := (hC v hv).i0
  show v.item + _ ≠ i
  omega
theorem tog_weeks2 {A C : List Wish} (hA : Of a A) (i : Int) (i0 : 0 ≤ i) : weeksOf (A ++ C.map (togW a.houses.length a.objects.length)) (i + a.objects.length) = weeksOf C i := by
  rw [weeksOf_app, weeksOf_none (x := A), Int.zero_add]
  · unfold weeksOf
    rw [filter_map', List.map_map]
    have e : ((fun w : Wish => decide (w.item = i + (a.objects.length : Int))) ∘ togW a.houses.length a.objects.length) = fun w => decide (w.item = i) := by
      funext w
      show decide (w.item + _ = i + _) = _
      rw [Bool.eq_iff_iff, decide_eq_true_iff, decide_eq_true_iff]
      omega
    rw [e]; rfl
  · intro w hw
    have := (hA w hw).i1
    omega
theorem tog_value1 {A C : List Wish} (hA : Of a A) (hC : Of c C) {h k : Int} (h1 : h < a.houses.length) : valueAt (tog a c) (A ++ C.map (togW a.houses.length a.objects.length)) h k = valueAt a A h k := by
  rw [valueAt_app, valueAt_none (x := C.map _), Int.add_zero]
  · unfold valueAt thereIn
    congr 1
    refine List.map_congr_left fun w hw => ?_
    have := hA w (List.mem_filter.mp hw).1
    rw [tog_obj1 this.i0 this.i1]
  · intro w hw
    obtain ⟨v, hv, rfl⟩ := List.mem_map.mp hw
    have := (hC v hv).h0
    show v.house + _ ≠ h
    omega
theorem tog_value2 {A C : List Wish} (hA : Of a A) (hC : Of c C) (h k : Int) (h0 : 0 ≤ h) : valueAt (tog a c) (A ++ C.map (togW a.houses.length a.objects.length)) (h + a.houses.length) k = valueAt c C h k := by
  rw [valueAt_app, valueAt_none (x := A), Int.zero_add]
  · unfold valueAt thereIn
    rw [filter_map', List.map_map]
    have e : ((fun w : Wish => decide (w.house = h + (a.houses.length : Int)) && (decide (w.first ≤ k) && decide (k ≤ w.last))) ∘ togW a.houses.length a.objects.length) = fun w => decide (w.house = h) && (decide (w.first ≤ k) && decide (k ≤ w.last)) := by
      funext w
      show (decide (w.house + _ = h + _) && _) = _
      congr 1
      rw [Bool.eq_iff_iff, decide_eq_true_iff, decide_eq_true_iff]
      omega
    rw [e]
    congr 1
    refine List.map_congr_left fun w hw => ?_
    have := hC w (List.mem_filter.mp hw).1
    show ((tog a c).obj (w.item + a.objects.length)).value = _
    rw [tog_obj2 this.i0 this.i1]; rfl
  · intro w hw
    have := (hA w hw).h1
    omega
theorem tog_fine (t : Tg a c) {A C : List Wish} (hA : Of a A) (hC : Of c C) : Fine (tog a c) (A ++ C.map (togW a.houses.length a.objects.length)) ↔ Fine a A ∧ Fine c C := by
  have t1 : ∀ x y, x ∈ A → tiredB (tog a c) x y = tiredB a x y := fun x y hx => by
    unfold tiredB
    rw [tog_obj1 (hA x hx).i0 (hA x hx).i1]
  have t2 : ∀ x y, x ∈ C → tiredB (tog a c) (togW a.houses.length a.objects.length x) (togW a.houses.length a.objects.length y) = tiredB c x y := fun x y hx => by
    unfold tiredB
    have e : (tog a c).obj (togW a.houses.length a.objects.length x).item = togO a.houses.length (c.obj x.item) := tog_obj2 (hC x hx).i0 (hC x hx).i1
    rw [e]
    have e2 : decide ((togW a.houses.length a.objects.length x).item = (togW a.houses.length a.objects.length y).item) = decide (x.item = y.item) := by
      rw [Bool.eq_iff_iff, decide_eq_true_iff, decide_eq_true_iff]
      show x.item + _ = y.item + _ ↔ _
      omega
    rw [e2]; rfl
  have hl := tog_hl (a := a) (c := c)
  have ol := tog_ol (a := a) (c := c)
  constructor
  · rintro ⟨h1, h2, h3⟩
    rw [List.pairwise_append, List.pairwise_map] at h1
    refine ⟨⟨h1.1.imp_of_mem fun {x y} hx _ q => by rw [← t1 x y hx]; exact q, fun i i0 i1 => ?_, fun h k b0 b1 k0 k1 => ?_⟩, ⟨h1.2.1.imp_of_mem fun {x y} hx _ q => by rw [← t2 x y hx]; exact q, fun i i0 i1 => ?_, fun h k b0 b1 k0 k1 => ?_⟩⟩
    · have := h2 i i0 (by omega)
      rw [tog_weeks1 hC i1, tog_obj1 i0 i1] at this
      exact this
    · have := h3 h k b0 (by omega) k0 k1
      rw [tog_value1 hA hC b1, tog_lim1 b0 b1] at this
      exact this
    · have := h2 (i + a.objects.length) (by omega) (by omega)
      rw [tog_weeks2 hA i i0, tog_obj2 i0 i1] at this
      exact this
    · have := h3 (h + a.houses.length) k (by omega) (by omega) k0 k1
      rw [tog_value2 hA hC h k b0, tog_lim2 b0] at this
      exact this
  · rintro ⟨⟨h1, h2, h3⟩, ⟨g1, g2, g3⟩⟩
    refine ⟨?_, fun i i0 i1 => ?_, fun h k b0 b1 k0 k1 => ?_⟩
    · rw [List.pairwise_append, List.pairwise_map]
      refine ⟨h1.imp_of_mem fun {x y} hx _ q => by rw [t1 x y hx]; exact q, g1.imp_of_mem fun {x y} hx _ q => by rw [t2 x y hx]; exact q, fun x hx y hy => ?_⟩
      obtain ⟨v, hv, rfl⟩ := List.mem_map.mp hy
      have p1 := (hA x hx).i1
      have p2 := (hC v hv).i0
      unfold tiredB
      rw [decide_eq_false (by show ¬ x.item = v.item + _; omega)]; rfl
    · by_cases q : i < a.objects.length
      · rw [tog_weeks1 hC q, tog_obj1 i0 q]; exact h2 i i0 q
      · have := g2 (i - a.objects.length) (by omega) (by omega)
        have e := tog_weeks2 (C := C) hA (i - a.objects.length) (by omega)
        have e2 := tog_obj2 (a := a) (c := c) (i := i - a.objects.length) (by omega) (by omega)
        rw [show i - (a.objects.length : Int) + a.objects.length = i by omega] at e e2
        rw [e, e2]; exact this
    · by_cases q : h < a.houses.length
      · rw [tog_value1 hA hC q, tog_lim1 b0 q]; exact h3 h k b0 q k0 k1
      · have := g3 (h - a.houses.length) k (by omega) (by omega) k0 k1
        have e := tog_value2 hA hC (h - a.houses.length) k (by omega)
        have e2 := tog_lim2 (a := a) (c := c) (h := h - a.houses.length) (by omega)
        rw [show h - (a.houses.length : Int) + a.houses.length = h by omega] at e e2
        rw [e, e2]; exact this
theorem join_good (t : Tg a c) {r1 r2 : List Int} (h1 : SomeOk a r1) (h2 : SomeOk c r2) : good (tog a c) (join a r1 r2) = (good a r1 && good c r2) := by
  have hs := join_some h1 h2
  have ok := tog_ok t
  rw [← good_eq ok hs, ← good_eq t.oka h1, ← good_eq t.okc h2, Bool.eq_iff_iff, Bool.and_eq_true, areGood_iff ok (hs.gw ok), areGood_iff t.oka (h1.gw t.oka), areGood_iff t.okc (h2.gw t.okc), join_named h1 h2]
  exact tog_fine t (of_named t.oka h1) (of_named t.okc h2)
theorem nil_some (p : Plan) : SomeOk p [] := ⟨by simp, by simp, rfl⟩
theorem good_l (t : Tg a c) {r : List Int} (h : SomeOk a r) : good (tog a c) r = good a r := by
  have := join_good t h (nil_some c)
  rw [good_nil t.okc, Bool.and_true] at this
  have e : join a r [] = r := by unfold join mv; simp
  rw [e] at this
  exact this
theorem good_r (t : Tg a c) {r : List Int} (h : SomeOk c r) : good (tog a c) (mv a.wishes.length r) = good c r := by
  have := join_good t (nil_some a) h
  rw [good_nil t.oka, Bool.true_and] at this
  exact this
theorem some_l {r : List Int} (h : SomeOk a r) : SomeOk (tog a c) r := by
  have := join_some h (nil_some c)
  have e : join a r [] = r := by unfold join mv; simp
  rw [e] at this
  exact this
theorem some_r {r : List Int} (h : SomeOk c r) : SomeOk (tog a c) (mv a.wishes.length r) := join_some (nil_some a) h
theorem less_mv (n : Int) (r : List Int) (i : Nat) : less (mv n r) i = mv n (less r i) := by
  unfold less mv
  rw [List.map_append, List.map_take, List.map_drop]
theorem clash_l (t : Tg a c) {r : List Int} (h : SomeOk a r) : isClash (tog a c) r = isClash a r := by
  rw [Bool.eq_iff_iff, isClash_iff, isClash_iff, good_l t h]
  constructor
  · rintro ⟨h1, h2⟩
    exact ⟨h1, fun i hi => by rw [← good_l t (h.sub (less_sub r i))]; exact h2 i hi⟩
  · rintro ⟨h1, h2⟩
    exact ⟨h1, fun i hi => by rw [good_l t (h.sub (less_sub r i))]; exact h2 i hi⟩
theorem clash_r (t : Tg a c) {r : List Int} (h : SomeOk c r) : isClash (tog a c) (mv a.wishes.length r) = isClash c r := by
  rw [Bool.eq_iff_iff, isClash_iff, isClash_iff, good_r t h, mv_len]
  constructor
  · rintro ⟨h1, h2⟩
    exact ⟨h1, fun i hi => by rw [← good_r t (h.sub (less_sub r i)), ← less_mv]; exact h2 i hi⟩
  · rintro ⟨h1, h2⟩
    exact ⟨h1, fun i hi => by rw [less_mv, good_r t (h.sub (less_sub r i))]; exact h2 i hi⟩
theorem clash_join (t : Tg a c) {r1 r2 : List Int} (h1 : SomeOk a r1) (h2 : SomeOk c r2) (h : isClash (tog a c) (join a r1 r2) = true) : r2 = [] ∨ r1 = [] := by
  have ok := tog_ok t
  have hs := join_some h1 h2
  have hg := (isClash_iff.mp h).1
  rw [join_good t h1 h2, Bool.and_eq_false_iff] at hg
  rcases hg with q | q
  · left
    refine Classical.byContradiction fun hn => ?_
    have sub : r1.Sublist (join a r1 r2) := List.sublist_append_left _ _
    have := clash_part ok hs h sub fun e => by
      have := congrArg List.length e
      unfold join at this
      rw [List.length_append, mv_len] at this
      exact hn (List.eq_nil_of_length_eq_zero (by omega))
    rw [good_l t h1, q] at this; cases this
  · right
    refine Classical.byContradiction fun hn => ?_
    have sub : (mv a.wishes.length r2).Sublist (join a r1 r2) := List.sublist_append_right _ _
    have := clash_part ok hs h sub fun e => by
      have := congrArg List.length e
      unfold join at this
      rw [List.length_append] at this
      exact hn (List.eq_nil_of_length_eq_zero (by omega))
    rw [good_r t h2, q] at this; cases this
/-! the order of rows -/
theorem mv_lt (n : Int) : ∀ u v : List Int, mv n u < mv n v ↔ u < v
  | [], [] => by simp [mv]
  | [], _ :: _ => by simp [mv]
  | _ :: _, [] => by simp [mv]
  | x :: u, y :: v => by
    have ih := mv_lt n u v
    unfold mv at ih ⊢
    rw [List.map_cons, List.map_cons, List.cons_lt_cons_iff, List.cons_lt_cons_iff, ih]
    constructor
    · rintro (h | ⟨h, k⟩)
      · exact Or.inl (by omega)
      · exact Or.inr ⟨by omega, k⟩
    · rintro (h | ⟨h, k⟩)
      · exact Or.inl (by omega)
      · exact Or.inr ⟨by omega, k⟩
theorem app_lt : ∀ (x y u v : List Int), x.length = y.length → (x ++ u < y ++ v ↔ x < y ∨ (x = y ∧ u < v))
  | [], [], u, v, _ => by simp
  | [], _ :: _, _, _, h => by simp at h
  | _ :: _, [], _, _, h => by simp at h
  | p :: x, q :: y, u, v, h => by
    have ih := app_lt x y u v (by simpa using h)
    rw [List.cons_append, List.cons_append, List.cons_lt_cons_iff, List.cons_lt_cons_iff, ih]
    constructor
    · rintro (h | ⟨h, k | ⟨k, l⟩⟩)
      · exact Or.inl (Or.inl h)
      · exact Or.inl (Or.inr ⟨h, k⟩)
      · exact Or.inr ⟨by rw [h, k], l⟩
    · rintro ((h | ⟨h, k⟩) | ⟨h, k⟩)
      · exact Or.inl h
      · exact Or.inr ⟨h, Or.inl k⟩
      · injection h with h1 h2
        exact Or.inr ⟨h1, Or.inr ⟨h2, k⟩⟩
theorem mv_inj (n : Int) {u v : List Int} (h : mv n u = mv n v) : u = v := by
  refine List.map_inj_right (f := fun x : Int => x + n) (fun x y e => ?_) |>.mp h
  have e' : x + n = y + n := e
  omega
theorem clashes_tog (t : Tg a c) : clashesOf (tog a c) = clashesOf a ++ (clashesOf c).map (mv a.wishes.length) := by
  refine sorted_uniq (sortR_sorted _) ?_ ?_
  · rw [List.pairwise_append, List.pairwise_map]
    refine ⟨sortR_sorted _, (sortR_sorted _).imp fun {x y} h => by rw [mv_lt]; exact h, fun x hx y hy => ?_⟩
    obtain ⟨z, hz, rfl⟩ := List.mem_map.mp hy
    have hx' := mem_clashes.mp hx
    have hz' := mem_clashes.mp hz
    cases x with
    | nil => exact absurd rfl (clash_ne t.oka hx'.2)
    | cons p x =>
      cases z with
      | nil => exact absurd rfl (clash_ne t.okc hz'.2)
      | cons q z =>
        have h1 := hx'.1.hi p List.mem_cons_self
        have h2 := hz'.1.lo q List.mem_cons_self
        show ¬ ((q + (a.wishes.length : Int)) :: mv a.wishes.length z < p :: x)
        rw [List.cons_lt_cons_iff]
        rintro (h | ⟨h, _⟩) <;> omega
  · refine perm_ext (clashes_nodup _) ?_ fun s => ?_
    · rw [List.nodup_append]
      refine ⟨clashes_nodup a, List.pairwise_map.mpr ((clashes_nodup c).imp fun h e => h (mv_inj _ e)), fun x hx y hy e => ?_⟩
      subst e
      obtain ⟨z, hz, rfl⟩ := List.mem_map.mp hy
      have hx' := mem_clashes.mp hx
      have hz' := mem_clashes.mp hz
      cases z with
      | nil => exact absurd rfl (clash_ne t.okc hz'.2)
      | cons q z =>
        have h1 := hx'.1.hi (q + a.wishes.length) List.mem_cons_self
        have h2 := hz'.1.lo q List.mem_cons_self
        omega
    · rw [mem_clashes, List.mem_append, mem_clashes, List.mem_map]
      constructor
      · rintro ⟨h1, h2⟩
        obtain ⟨r1, r2, k1, k2, rfl⟩ := join_ex h1
        rcases clash_join t k1 k2 h2 with e | e
        · subst e
          have e : join a r1 [] = r1 := by unfold join mv; simp
          rw [e] at h2 ⊢
          left
          exact ⟨k1, by rw [← clash_l t k1]; exact h2⟩
        · subst e
          right
          exact ⟨r2, mem_clashes.mpr ⟨k2, by rw [← clash_r t k2]; exact h2⟩, rfl⟩
      · rintro (⟨h1, h2⟩ | ⟨r, hr, rfl⟩)
        · exact ⟨some_l h1, by rw [clash_l t h1]; exact h2⟩
        · obtain ⟨h1, h2⟩ := mem_clashes.mp hr
          exact ⟨some_r h1, by rw [clash_r t h1]; exact h2⟩
/-! greatest rows -/
theorem join_len (r1 r2 : List Int) : (join a r1 r2).length = r1.length + r2.length := by unfold join; rw [List.length_append, mv_len]
theorem most_tog (t : Tg a c) : mostGranted (tog a c) = mostGranted a + mostGranted c := by
  have ok := tog_ok t
  have ba := mem_largest.mp (best_mem t.oka)
  have bc := mem_largest.mp (best_mem t.okc)
  have bt := mem_largest.mp (best_mem ok)
  have h1 := le_most (join_some ba.1.1 bc.1.1) (by rw [join_good t ba.1.1 bc.1.1, ba.1.2, bc.1.2]; rfl)
  rw [join_len, ba.2, bc.2] at h1
  obtain ⟨r1, r2, k1, k2, e⟩ := join_ex bt.1.1
  have hg := bt.1.2
  have hl := bt.2
  rw [e, join_good t k1 k2, Bool.and_eq_true] at hg
  rw [e, join_len] at hl
  have h2 := le_most k1 hg.1
  have h3 := le_most k2 hg.2
  omega
theorem mem_largest_tog (t : Tg a c) {s : List Int} : s ∈ largest (tog a c) ↔ ∃ r1 r2, r1 ∈ largest a ∧ r2 ∈ largest c ∧ s = join a r1 r2 := by
  have hm := most_tog t
  rw [mem_largest]
  constructor
  · rintro ⟨⟨h1, h2⟩, h3⟩
    obtain ⟨r1, r2, k1, k2, rfl⟩ := join_ex h1
    rw [join_good t k1 k2, Bool.and_eq_true] at h2
    rw [join_len] at h3
    have l1 := le_most k1 h2.1
    have l2 := le_most k2 h2.2
    exact ⟨r1, r2, mem_largest.mpr ⟨⟨k1, h2.1⟩, by omega⟩, mem_largest.mpr ⟨⟨k2, h2.2⟩, by omega⟩, rfl⟩
  · rintro ⟨r1, r2, h1, h2, rfl⟩
    obtain ⟨⟨k1, g1⟩, l1⟩ := mem_largest.mp h1
    obtain ⟨⟨k2, g2⟩, l2⟩ := mem_largest.mp h2
    exact ⟨⟨join_some k1 k2, by rw [join_good t k1 k2, g1, g2]; rfl⟩, by rw [join_len, l1, l2, hm]⟩
theorem join_inj {r1 r2 u1 u2 : List Int} (h : r1.length = u1.length) (e : join a r1 r2 = join a u1 u2) : r1 = u1 ∧ r2 = u2 := by
  obtain ⟨e1, e2⟩ := List.append_inj e h
  exact ⟨e1, mv_inj _ e2⟩
theorem count_tog (t : Tg a c) : (largest (tog a c)).length = (largest a).length * (largest c).length := by
  have p : (largest (tog a c)).Perm ((largest a).flatMap fun r1 => (largest c).map fun r2 => join a r1 r2) := by
    refine perm_ext (largest_nodup _) ?_ fun s => ?_
    · show List.Pairwise _ _
      rw [List.pairwise_flatMap]
      refine ⟨fun r1 hr => List.pairwise_map.mpr ((largest_nodup c).imp fun h e => h (join_inj rfl e).2), ?_⟩
      refine (largest_nodup a).imp_of_mem fun {x y} hx hy h => fun u hu v hv e => ?_
      obtain ⟨u2, _, rfl⟩ := List.mem_map.mp hu
      obtain ⟨v2, _, rfl⟩ := List.mem_map.mp hv
      exact h (join_inj (by rw [(mem_largest.mp hx).2, (mem_largest.mp hy).2]) e).1
    · rw [mem_largest_tog t, List.mem_flatMap]
      constructor
      · rintro ⟨r1, r2, h1, h2, rfl⟩
        exact ⟨r1, h1, List.mem_map.mpr ⟨r2, h2, rfl⟩⟩
      · rintro ⟨r1, h1, h2⟩
        obtain ⟨r2, h3, rfl⟩ := List.mem_map.mp h2
        exact ⟨r1, r2, h1, h3, rfl⟩
  rw [p.length_eq]
  generalize largest a = L
  induction L with
  | nil => simp
  | cons x l ih => rw [List.flatMap_cons, List.length_append, List.length_map, ih, List.length_cons, Nat.succ_mul]; omega
theorem best_least {p : Plan} (hp : p.Ok) : ∀ r ∈ largest p, ¬ r < best p := by
  have h := sortR_sorted ((goodOnes p).filter fun r => decide (r.length = maxL (goodOnes p)))
  have e : largest p = sortR ((goodOnes p).filter fun r => decide (r.length = maxL (goodOnes p))) := rfl
  rw [← e] at h
  unfold best
  intro r hr
  cases q : largest p with
  | nil => rw [q] at hr; cases hr
  | cons x l =>
    rw [q] at h hr
    rcases List.mem_cons.mp hr with e | e
    · rw [e]; exact List.lt_irrefl _
    · exact (List.pairwise_cons.mp h).1 r e
theorem best_is {p : Plan} (hp : p.Ok) {x : List Int} (hx : x ∈ largest p) (h : ∀ r ∈ largest p, ¬ r < x) : best p = x := by
  rcases lt_tri (best p) x with q | q | q
  · exact absurd q (h _ (best_mem hp))
  · exact q
  · exact absurd q (best_least hp x hx)
theorem best_tog (t : Tg a c) : best (tog a c) = join a (best a) (best c) := by
  refine best_is (tog_ok t) ((mem_largest_tog t).mpr ⟨_, _, best_mem t.oka, best_mem t.okc, rfl⟩) fun r hr => ?_
  obtain ⟨r1, r2, h1, h2, rfl⟩ := (mem_largest_tog t).mp hr
  unfold join
  rw [app_lt _ _ _ _ (by rw [(mem_largest.mp h1).2, best_len t.oka]), mv_lt]
  rintro (h | ⟨_, h⟩)
  · exact best_least t.oka _ h1 h
  · exact best_least t.okc _ h2 h
/-! what to refuse -/
theorem lt_no_trans (a b c : List Int) (h1 : decide (a < b) = false) (h2 : decide (b < c) = false) : decide (a < c) = false := by
  rw [decide_eq_false_iff_not, List.not_lt] at h1 h2 ⊢
  exact List.le_trans h2 h1
theorem refuse_least {p : Plan} (hp : p.Ok) : ∀ g ∈ largest p, ¬ others p g < toRefuse p := by
  intro g hg
  unfold toRefuse
  cases q : headMin (fun a b => decide (a < b)) ((largest p).map (others p)) with
  | none =>
    rw [headMin_none] at q
    have : others p g ∈ (largest p).map (others p) := List.mem_map.mpr ⟨g, hg, rfl⟩
    rw [q] at this; cases this
  | some m =>
    have := headMin_le (lt := fun a b : List Int => decide (a < b)) lt_no_trans (fun a b h => by
      rw [decide_eq_true_iff] at h
      rw [decide_eq_false_iff_not, List.not_lt]
      exact List.le_of_lt h) (fun a => by rw [decide_eq_false_iff_not]; exact List.lt_irrefl _) q (others p g) (List.mem_map.mpr ⟨g, hg, rfl⟩)
    exact of_decide_eq_false this
theorem refuse_unique {p : Plan} (hp : p.Ok) {g : List Int} (hg : g ∈ largest p) (h : ∀ r ∈ largest p, ¬ others p r < others p g) : toRefuse p = others p g := by
  obtain ⟨g0, hg0, e⟩ := refuse_is hp
  rcases lt_tri (toRefuse p) (others p g) with q | q | q
  · rw [e] at q; exact absurd q (h _ hg0)
  · exact q
  · exact absurd q (refuse_least hp g hg)
theorem others_join (t : Tg a c) {r1 r2 : List Int} (h1 : SomeOk a r1) (h2 : SomeOk c r2) : others (tog a c) (join a r1 r2) = join a (others a r1) (others c r2) := by
  have e3 := tog_wl (a := a) (c := c)
  refine asc_ext (others_some _ _).as (join_some (others_some a r1) (others_some c r2)).as fun x => ?_
  unfold join
  rw [mem_others, List.mem_append, List.mem_append, mv_mem, mv_mem, mem_others, mem_others]
  constructor
  · rintro ⟨⟨x0, x1⟩, hx⟩
    by_cases q : x < a.wishes.length
    · exact Or.inl ⟨⟨x0, q⟩, fun z => hx (Or.inl z)⟩
    · exact Or.inr ⟨⟨by omega, by omega⟩, fun z => hx (Or.inr z)⟩
  · rintro (⟨⟨x0, x1⟩, hx⟩ | ⟨⟨x0, x1⟩, hx⟩)
    · refine ⟨⟨x0, by omega⟩, ?_⟩
      rintro (z | z)
      · exact hx z
      · have := h2.lo _ z; omega
    · refine ⟨⟨by omega, by omega⟩, ?_⟩
      rintro (z | z)
      · have := h1.hi _ z; omega
      · exact hx z
theorem refuse_tog (t : Tg a c) : toRefuse (tog a c) = join a (toRefuse a) (toRefuse c) := by
  obtain ⟨g1, hg1, e1⟩ := refuse_is t.oka
  obtain ⟨g2, hg2, e2⟩ := refuse_is t.okc
  have s1 := (mem_largest.mp hg1).1.1
  have s2 := (mem_largest.mp hg2).1.1
  rw [e1, e2, ← others_join t s1 s2]
  refine refuse_unique (tog_ok t) ((mem_largest_tog t).mpr ⟨g1, g2, hg1, hg2, rfl⟩) fun r hr => ?_
  obtain ⟨r1, r2, h1, h2, rfl⟩ := (mem_largest_tog t).mp hr
  have k1 := (mem_largest.mp h1).1.1
  have k2 := (mem_largest.mp h2).1.1
  rw [others_join t s1 s2, others_join t k1 k2]
  have l1 := others_len k1
  have l2 := others_len s1
  have m1 := (mem_largest.mp h1).2
  have m2 := (mem_largest.mp hg1).2
  unfold join
  rw [app_lt _ _ _ _ (by omega), mv_lt, ← e1, ← e2]
  rintro (h | ⟨_, h⟩)
  · exact refuse_least t.oka _ h1 h
  · exact refuse_least t.okc _ h2 h
/-! clashes apart -/
theorem free_mv (n : Int) (x : List Int) (l : List (List Int)) : free (mv n x) (l.map (mv n)) = (free x l).map (mv n) := by
  unfold free
  rw [filter_map']
  congr 1
  refine List.filter_congr fun r _ => ?_
  show (!(mv n r).any fun y => decide (y ∈ mv n x)) = !r.any fun y => decide (y ∈ x)
  congr 1
  unfold mv
  rw [List.any_map]
  congr 1
  funext y
  show decide (y + n ∈ x.map fun z => z + n) = decide (y ∈ x)
  rw [Bool.eq_iff_iff, decide_eq_true_iff, decide_eq_true_iff]
  have := mv_mem (n := n) (x := y + n) (r := x)
  unfold mv at this
  rw [this, show y + n - n = y by omega]
theorem apart_mv (n : Int) : ∀ (m : Nat) (l : List (List Int)), l.length ≤ m → mostApart (l.map (mv n)) = mostApart l
  | _, [], _ => rfl
  | 0, x :: l, h => by simp at h
  | m + 1, x :: l, h => by
    have h1 : l.length ≤ m := by rw [List.length_cons] at h; omega
    have h2 : (free x l).length ≤ l.length := List.length_filter_le ..
    rw [List.map_cons, mostApart_cons, mostApart_cons, free_mv, apart_mv n m l h1, apart_mv n m (free x l) (by omega)]
theorem apart_app : ∀ (m : Nat) (l k : List (List Int)), l.length ≤ m → (∀ x ∈ l, ∀ y ∈ k, ∀ z ∈ y, z ∉ x) → mostApart (l ++ k) = mostApart l + mostApart k
  | _, [], k, _, _ => by rw [List.nil_append, mostApart_nil, Nat.zero_add]
  | 0, x :: l, k, h, _ => by simp at h
  | m + 1, x :: l, k, h, hd => by
    have h1 : l.length ≤ m := by rw [List.length_cons] at h; omega
    have h2 : (free x l).length ≤ l.length := List.length_filter_le ..
    have e : free x (l ++ k) = free x l ++ k := by
      unfold free
      rw [List.filter_append]
      congr 1
      rw [List.filter_eq_self]
      intro y hy
      rw [Bool.not_eq_true', ← Bool.not_eq_true, List.any_eq_true]
      rintro ⟨z, hz, q⟩
      exact hd x List.mem_cons_self y hy z hz (of_decide_eq_true q)
    rw [List.cons_append, mostApart_cons, mostApart_cons, e, apart_app m l k h1 fun u hu => hd u (List.mem_cons_of_mem _ hu), apart_app m (free x l) k (by omega) fun u hu => hd u (List.mem_cons_of_mem _ (List.mem_filter.mp hu).1)]
    omega
theorem apart_tog (t : Tg a c) : mostApart (clashesOf (tog a c)) = mostApart (clashesOf a) + mostApart (clashesOf c) := by
  rw [clashes_tog t, apart_app _ _ _ (Nat.le_refl _), apart_mv _ _ _ (Nat.le_refl _)]
  intro x hx y hy z hz hzx
  obtain ⟨u, hu, rfl⟩ := List.mem_map.mp hy
  have h1 := (mem_clashes.mp hx).1.hi z hzx
  have h2 := (mem_clashes.mp hu).1.lo _ (mv_mem.mp hz)
  omega
/-! roles -/
theorem role_tog1 (t : Tg a c) {w : Int} (w1 : w < a.wishes.length) : roleR (tog a c) w = roleR a w := by
  have mem : ∀ r1 r2, r2 ∈ largest c → (w ∈ join a r1 r2 ↔ w ∈ r1) := fun r1 r2 h2 => by
    unfold join
    rw [List.mem_append, mv_mem]
    constructor
    · rintro (h | h)
      · exact h
      · have := (mem_largest.mp h2).1.1.lo _ h; omega
    · exact Or.inl
  have e1 : isSure (tog a c) w = isSure a w := by
    rw [Bool.eq_iff_iff, sure_iff, sure_iff]
    constructor
    · intro h r hr
      exact (mem r _ (best_mem t.okc)).mp (h _ ((mem_largest_tog t).mpr ⟨r, _, hr, best_mem t.okc, rfl⟩))
    · intro h r hr
      obtain ⟨r1, r2, h1, h2, rfl⟩ := (mem_largest_tog t).mp hr
      exact (mem r1 r2 h2).mpr (h r1 h1)
  have e2 : isAny (tog a c) w = isAny a w := by
    rw [Bool.eq_iff_iff, any_iff, any_iff]
    constructor
    · rintro ⟨r, hr, hw⟩
      obtain ⟨r1, r2, h1, h2, rfl⟩ := (mem_largest_tog t).mp hr
      exact ⟨r1, h1, (mem r1 r2 h2).mp hw⟩
    · rintro ⟨r, hr, hw⟩
      exact ⟨_, (mem_largest_tog t).mpr ⟨r, _, hr, best_mem t.okc, rfl⟩, (mem r _ (best_mem t.okc)).mpr hw⟩
  unfold roleR
  rw [e1, e2]
theorem role_tog2 (t : Tg a c) {w : Int} (w0 : 0 ≤ w) : roleR (tog a c) (w + a.wishes.length) = roleR c w := by
  have mem : ∀ r1 r2, r1 ∈ largest a → (w + (a.wishes.length : Int) ∈ join a r1 r2 ↔ w ∈ r2) := fun r1 r2 h1 => by
    unfold join
    rw [List.mem_append, mv_mem, show w + (a.wishes.length : Int) - a.wishes.length = w by omega]
    constructor
    · rintro (h | h)
      · have := (mem_largest.mp h1).1.1.hi _ h; omega
      · exact h
    · exact Or.inr
  have e1 : isSure (tog a c) (w + a.wishes.length) = isSure c w := by
    rw [Bool.eq_iff_iff, sure_iff, sure_iff]
    constructor
    · intro h r hr
      exact (mem _ r (best_mem t.oka)).mp (h _ ((mem_largest_tog t).mpr ⟨_, r, best_mem t.oka, hr, rfl⟩))
    · intro h r hr
      obtain ⟨r1, r2, h1, h2, rfl⟩ := (mem_largest_tog t).mp hr
      exact (mem r1 r2 h1).mpr (h r2 h2)
  have e2 : isAny (tog a c) (w + a.wishes.length) = isAny c w := by
    rw [Bool.eq_iff_iff, any_iff, any_iff]
    constructor
    · rintro ⟨r, hr, hw⟩
      obtain ⟨r1, r2, h1, h2, rfl⟩ := (mem_largest_tog t).mp hr
      exact ⟨r2, h2, (mem r1 r2 h1).mp hw⟩
    · rintro ⟨r, hr, hw⟩
      exact ⟨_, (mem_largest_tog t).mpr ⟨_, r, best_mem t.oka, hr, rfl⟩, (mem _ r (best_mem t.oka)).mpr hw⟩
  unfold roleR
  rw [e1, e2]
/-! loans -/
theorem range_app (m n : Nat) : rangeD 0 (m + n) = rangeD 0 m ++ (rangeD 0 n).map fun x => x + (m : Int) := by
  unfold rangeD
  rw [List.range_add, List.map_append, List.map_map, List.map_map]
  congr 1
  refine List.map_congr_left fun x _ => ?_
  show (0 : Int) + ((m + x : Nat) : Int) = 0 + (x : Int) + m
  omega
theorem spans_tog1 (t : Tg a c) {i : Int} (hi : InObj a i) : spansOf (tog a c) i = spansOf a i := by
  unfold spansOf
  congr 2
  unfold endsOf
  rw [tog_obj1 hi.1 hi.2]
  show ((a.wishes ++ c.wishes.map _).filter _).map _ = _
  rw [List.filter_append, List.map_append]
  have e : (c.wishes.map (togW a.houses.length a.objects.length)).filter (fun w => decide (w.item = i)) = [] := by
    rw [List.filter_eq_nil_iff]
    intro w hw
    obtain ⟨v, hv, rfl⟩ := List.mem_map.mp hw
    have := (t.okc.ws v hv).i0
    have := hi.2
    rw [decide_eq_true_iff]
    show ¬ (v.item + _ = i)
    omega
  rw [e]; simp
theorem spans_tog2 (t : Tg a c) {i : Int} (hi : InObj c i) : spansOf (tog a c) (i + a.objects.length) = spansOf c i := by
  unfold spansOf
  congr 2
  unfold endsOf
  rw [tog_obj2 hi.1 hi.2]
  show ((a.wishes ++ c.wishes.map _).filter _).map _ = _
  rw [List.filter_append, List.map_append]
  have e : a.wishes.filter (fun w => decide (w.item = i + (a.objects.length : Int))) = [] := by
    rw [List.filter_eq_nil_iff]
    intro w hw
    have := (t.oka.ws w hw).i1
    have := hi.1
    rw [decide_eq_true_iff]
    omega
  rw [e, filter_map', List.map_map]
  have e2 : ((fun w : Wish => decide (w.item = i + (a.objects.length : Int))) ∘ togW a.houses.length a.objects.length) = fun w => decide (w.item = i) := by
    funext w
    show decide (w.item + _ = i + _) = _
    rw [Bool.eq_iff_iff, decide_eq_true_iff, decide_eq_true_iff]
    omega
  rw [e2]; rfl
theorem loans_tog (t : Tg a c) : (rangeD 0 (tog a c).objects.length).map (fun i => (loansOf (tog a c) i : Int)) = (rangeD 0 a.objects.length).map (fun i => (loansOf a i : Int)) ++ (rangeD 0 c.objects.length).map fun i => (loansOf c i : Int) := by
  rw [tog_ol, range_app, List.map_append, List.map_map]
  congr 1
  · refine List.map_congr_left fun i hi => ?_
    have := rangeD_mem.mp hi
    unfold loansOf
    rw [spans_tog1 t ⟨this.1, by omega⟩]
  · refine List.map_congr_left fun i hi => ?_
    have := rangeD_mem.mp hi
    show ((loansOf (tog a c) (i + a.objects.length) : Nat) : Int) = _
    unfold loansOf
    rw [spans_tog2 t ⟨this.1, by omega⟩]
theorem roles_tog (t : Tg a c) : (rangeD 0 (tog a c).wishes.length).map (roleR (tog a c)) = (rangeD 0 a.wishes.length).map (roleR a) ++ (rangeD 0 c.wishes.length).map (roleR c) := by
  rw [tog_wl, range_app, List.map_append, List.map_map]
  congr 1
  · refine List.map_congr_left fun i hi => ?_
    have := rangeD_mem.mp hi
    exact role_tog1 t (by omega)
  · refine List.map_congr_left fun i hi => ?_
    have := rangeD_mem.mp hi
    exact role_tog2 t this.1
/-! journeys -/
theorem item_tog1 {r1 r2 : List Int} (h1 : SomeOk a r1) (h2 : SomeOk c r2) (t : Tg a c) {i : Int} (i1 : i < a.objects.length) : itemW (tog a c) (join a r1 r2) i = itemW a r1 i := by
  unfold itemW
  rw [join_named h1 h2, List.filter_append]
  have e : ((named c r2).map (togW a.houses.length a.objects.length)).filter (fun w => decide (w.item = i)) = [] := by
    rw [List.filter_eq_nil_iff]
    intro w hw
    obtain ⟨v, hv, rfl⟩ := List.mem_map.mp hw
    have := (of_named t.okc h2 v hv).i0
    rw [decide_eq_true_iff]
    show ¬ (v.item + _ = i)
    omega
  rw [e, List.append_nil]
theorem item_tog2 {r1 r2 : List Int} (h1 : SomeOk a r1) (h2 : SomeOk c r2) (t : Tg a c) {i : Int} (i0 : 0 ≤ i) : itemW (tog a c) (join a r1 r2) (i + a.objects.length) = (itemW c r2 i).map (togW a.houses.length a.objects.length) := by
  unfold itemW
  rw [join_named h1 h2, List.filter_append]
  have e : (named a r1).filter (fun w => decide (w.item = i + (a.objects.length : Int))) = [] := by
    rw [List.filter_eq_nil_iff]
    intro w hw
    have := (of_named t.oka h1 w hw).i1
    rw [decide_eq_true_iff]
    omega
  rw [e, List.nil_append, filter_map']
  congr 1
  refine List.filter_congr fun w _ => ?_
  show decide (w.item + _ = i + _) = _
  rw [Bool.eq_iff_iff, decide_eq_true_iff, decide_eq_true_iff]
  omega
theorem sortW_tog (h o : Int) (l : List Wish) : sortW (l.map (togW h o)) = (sortW l).map (togW h o) := by
  refine sortW_uniq (sortW_sorted _) ?_ ((sortW_perm _).trans ((sortW_perm l).symm.map _))
  rw [List.pairwise_map]
  refine (sortW_sorted l).imp fun {x y} q => ?_
  rw [← q]
  have h1 : decide (y.house + h < x.house + h) = decide (y.house < x.house) := by rw [Bool.eq_iff_iff, decide_eq_true_iff, decide_eq_true_iff]; omega
  have h2 : decide (y.house + h = x.house + h) = decide (y.house = x.house) := by rw [Bool.eq_iff_iff, decide_eq_true_iff, decide_eq_true_iff]; omega
  have h3 : decide (y.item + o < x.item + o) = decide (y.item < x.item) := by rw [Bool.eq_iff_iff, decide_eq_true_iff, decide_eq_true_iff]; omega
  have h4 : decide (y.item + o = x.item + o) = decide (y.item = x.item) := by rw [Bool.eq_iff_iff, decide_eq_true_iff, decide_eq_true_iff]; omega
  rw [wLt_row, wLt_row]
  unfold wRow togW
  simp only [ltR, h1, h2, h3, h4]
theorem trips_tog (h o : Int) (l : List Wish) (wait : Int) : trips (sortW (l.map (togW h o))) wait = trips (sortW l) wait := by
  rw [sortW_tog]
  unfold trips
  rw [List.isEmpty_map, tripsOn_map (togW h o) wait fun x y => by
    unfold tripStep togW
    simp only
    have e : y.house + h = x.house + h ↔ y.house = x.house := by omega
    simp only [e]]
theorem journeys_tog (t : Tg a c) {r1 r2 : List Int} (h1 : SomeOk a r1) (h2 : SomeOk c r2) (wait : Int) : journeysOf (tog a c) (join a r1 r2) wait = journeysOf a r1 wait + journeysOf c r2 wait := by
  unfold journeysOf journeysN
  rw [tog_ol, range_app, List.map_append, List.sum_append, List.map_map]
  congr 2
  · refine List.map_congr_left fun i hi => ?_
    have := rangeD_mem.mp hi
    unfold itemTrips
    rw [item_tog1 h1 h2 t (by omega)]
  · refine List.map_congr_left fun i hi => ?_
    have := rangeD_mem.mp hi
    show trips (sortW (itemW (tog a c) (join a r1 r2) (i + a.objects.length))) wait = _
    rw [item_tog2 h1 h2 t this.1, trips_tog]
    rfl
/-! kinds of reasons -/
inductive Kd where
  | light
  | rest
  | value
  deriving DecidableEq
def kd : Reason → Kd
  | .light _ => .light
  | .rest _ _ => .rest
  | .value _ _ => .value
def kdS : Kd → Str
  | .light => "light"
  | .rest => "rest"
  | .value => "value"
abbrev eKd (k : Kd) : PyData := .str (kdS k)
def kdN : Kd → Nat
  | .light => 0
  | .rest => 1
  | .value => 2
theorem kd_str (r : Reason) : kindS r = kdS (kd r) := by cases r <;> rfl
theorem kd_lt (x y : Kd) : PySem.W.dataLt (eKd x) (eKd y) = decide (kdN x < kdN y) := by
  cases x <;> cases y <;> decide +kernel
theorem en_kd : En eKd 0 := ⟨fun k => by cases k <;> first | exact shp_light | exact shp_rest | exact shp_value, fun x y => by
  cases x <;> cases y <;> simp only [kdS, PyData.eqv, sne1, sne2, sne3, sne4, sne5, sne6, beq_self_eq_true] <;> rfl⟩
theorem srt_kd (l : List Kd) : Srt (l.map eKd) := by
  refine ⟨fun d hd d' hd' => ?_, .inl (.inr fun d hd => ?_), fun d hd => ?_⟩
  · obtain ⟨x, _, rfl⟩ := List.mem_map.mp hd
    obtain ⟨y, _, rfl⟩ := List.mem_map.mp hd'
    simp [PySem.W.alike]
  · obtain ⟨x, _, rfl⟩ := List.mem_map.mp hd
    exact ⟨(fun z => by cases z), fun xs z => by cases z⟩
  · obtain ⟨x, _, rfl⟩ := List.mem_map.mp hd
    exact ⟨(fun z => by cases z), by simp [PyData.depth]⟩
theorem sort_kd {l m : List Kd} (h : l.Perm m) : sortD (l.map eKd) = sortD (m.map eKd) := by
  rw [sort_enc eKd (fun x y => decide (kdN x < kdN y)) kd_lt, sort_enc eKd (fun x y => decide (kdN x < kdN y)) kd_lt]
  congr 1
  have so : ∀ l : List Kd, (l.mergeSort fun a b => !decide (kdN b < kdN a)).Pairwise fun a b => kdN a ≤ kdN b := fun l => by
    refine (List.pairwise_mergeSort (le := fun a b : Kd => !decide (kdN b < kdN a)) (fun a b c h1 h2 => ?_) (fun a b => ?_) l).imp fun {a b} h => ?_
    · simp only [Bool.not_eq_true', decide_eq_false_iff_not] at h1 h2 ⊢; omega
    · rw [Bool.or_eq_true]; simp only [Bool.not_eq_true', decide_eq_false_iff_not]; omega
    · simp only [Bool.not_eq_true', decide_eq_false_iff_not] at h; omega
  refine List.Perm.eq_of_pairwise (le := fun a b : Kd => kdN a ≤ kdN b) (fun x y _ _ h1 h2 => ?_) (so l) (so m) ((List.mergeSort_perm ..).trans (h.trans (List.mergeSort_perm ..).symm))
  cases x <;> cases y <;> first | rfl | (simp [kdN] at h1 h2)
def kindsOf (p : Plan) (s : List Int) : List Kd := (reasonsOf p s).map kd
theorem map_const {α β : Type} (f : α → β) (b : β) (h : ∀ x, f x = b) : ∀ l : List α, l.map f = List.replicate l.length b
  | [] => rfl
  | x :: l => by rw [List.map_cons, h, map_const f b h l]; rfl
theorem kinds_rep (p : Plan) (s : List Int) : kindsOf p s = List.replicate (bleached p (named p s)).length .light ++ List.replicate (tired p (named p s)).length .rest ++ List.replicate (crowded p (named p s)).length .value := by
  unfold kindsOf reasonsOf
  rw [List.map_append, List.map_append, List.map_map, List.map_map, List.map_map, map_const (kd ∘ Reason.light) .light (fun _ => rfl), map_const (kd ∘ fun x : Int × Int => Reason.rest (atZ s x.1) (atZ s x.2)) .rest (fun x => rfl), map_const (kd ∘ fun x : Int × Int => Reason.value x.1 x.2) .value (fun x => rfl)]
/-- the pairs without rest, counted -/
def tiredN (p : Plan) : List Wish → Nat
  | [] => 0
  | x :: l => (l.filter (tiredB p x)).length + tiredN p l
theorem tired_count (p : Plan) (ws : List Wish) : (tired p ws).length = tiredN p ws := by
  have gen : ∀ (k : Nat) (pre l : List Wish), pre.length = k → ws = pre ++ l → ((l.zipIdx k).flatMap fun x => (tiredRow p ws x.1 x.2).map fun t => ((x.2 : Int), t)).length = tiredN p l := by
    intro k pre l
    induction l generalizing k pre with
    | nil => intro _ _; rfl
    | cons x l ih =>
      intro hk e
      rw [List.zipIdx_cons, List.flatMap_cons, List.length_append, ih (k + 1) (pre ++ [x]) (by rw [List.length_append, hk]; rfl) (by rw [e]; simp), List.length_map]
      show (tiredRow p ws x (k : Nat)).length + _ = (l.filter (tiredB p x)).length + tiredN p l
      congr 1
      have h1 : (tiredRow p ws x (k : Nat)).map (wAt ws) = l.filter (tiredB p x) := by
        unfold tiredRow
        have e2 : l = (rangeD ((k : Int) + 1) ((ws.length : Int) - ((k : Int) + 1)).toNat).map (wAt ws) := by
          have hd : l = ws.drop (k + 1) := by
            rw [e, ← hk, show pre.length + 1 = (pre ++ [x]).length by simp, show pre ++ x :: l = (pre ++ [x]) ++ l by simp, List.drop_left]
          refine List.ext_getElem? fun j => ?_
          rw [hd, List.getElem?_drop, List.getElem?_map]
          unfold rangeD
          rw [List.getElem?_map]
          by_cases c : j < ((ws.length : Int) - ((k : Int) + 1)).toNat
          · rw [List.getElem?_range c]
            have hj : k + 1 + j < ws.length := by omega
            rw [List.getElem?_eq_getElem hj]
            show _ = some (wAt ws ((k : Int) + 1 + (j : Int)))
            unfold wAt
            rw [show ((k : Int) + 1 + (j : Int)).toNat = k + 1 + j by omega, List.getD, List.getElem?_eq_getElem hj]
            rfl
          · rw [List.getElem?_eq_none (by omega), List.getElem?_eq_none (by rw [List.length_range]; omega)]
            rfl
        conv => rhs; rw [e2]
        rw [filter_map']
        rfl
      rw [← h1, List.length_map]
  exact gen 0 [] ws rfl rfl
theorem tiredN_app {p : Plan} : ∀ (x y : List Wish), (∀ u ∈ x, ∀ v ∈ y, tiredB p u v = false) → tiredN p (x ++ y) = tiredN p x + tiredN p y
  | [], y, _ => by rw [List.nil_append]; simp [tiredN]
  | u :: x, y, h => by
    rw [List.cons_append]
    show ((x ++ y).filter (tiredB p u)).length + tiredN p (x ++ y) = (x.filter (tiredB p u)).length + tiredN p x + tiredN p y
    have e : y.filter (tiredB p u) = [] := List.filter_eq_nil_iff.mpr fun v hv => by rw [h u List.mem_cons_self v hv]; exact Bool.false_ne_true
    rw [List.filter_append, e, List.append_nil, tiredN_app x y fun u' hu => h u' (List.mem_cons_of_mem _ hu)]
    omega
theorem tiredN_map {p q : Plan} (f : Wish → Wish) : ∀ l : List Wish, (∀ u ∈ l, ∀ v ∈ l, tiredB q (f u) (f v) = tiredB p u v) → tiredN q (l.map f) = tiredN p l
  | [], _ => rfl
  | u :: l, h => by
    show ((l.map f).filter (tiredB q (f u))).length + tiredN q (l.map f) = (l.filter (tiredB p u)).length + tiredN p l
    rw [filter_map', List.length_map, tiredN_map f l fun a ha b hb => h a (List.mem_cons_of_mem _ ha) b (List.mem_cons_of_mem _ hb)]
    congr 2
    exact List.filter_congr fun v hv => h u List.mem_cons_self v (List.mem_cons_of_mem _ hv)
theorem kinds_tog (t : Tg a c) {r1 r2 : List Int} (h1 : SomeOk a r1) (h2 : SomeOk c r2) : (kindsOf (tog a c) (join a r1 r2)).Perm (kindsOf a r1 ++ kindsOf c r2) := by
  have hA := of_named t.oka h1
  have hC := of_named t.okc h2
  have eb : (bleached (tog a c) (named (tog a c) (join a r1 r2))).length = (bleached a (named a r1)).length + (bleached c (named c r2)).length := by
    rw [join_named h1 h2]
    unfold bleached
    rw [tog_ol, range_app, List.filter_append, List.length_append, filter_map', List.length_map]
    congr 2
    · refine List.filter_congr fun i hi => ?_
      have := rangeD_mem.mp hi
      rw [tog_weeks1 hC (by omega), tog_obj1 this.1 (by omega)]
    · refine List.filter_congr fun i hi => ?_
      have := rangeD_mem.mp hi
      show decide (((tog a c).obj (i + a.objects.length)).light < weeksOf _ (i + a.objects.length)) = _
      rw [tog_weeks2 hA i this.1, tog_obj2 this.1 (by omega)]
      rfl
  have et : (tired (tog a c) (named (tog a c) (join a r1 r2))).length = (tired a (named a r1)).length + (tired c (named c r2)).length := by
    rw [join_named h1 h2, tired_count, tired_count, tired_count, tiredN_app]
    · congr 1
      · have := tiredN_map (p := a) (q := tog a c) id (named a r1) fun u hu v hv => by
          show tiredB (tog a c) u v = _
          unfold tiredB
          rw [tog_obj1 (hA u hu).i0 (hA u hu).i1]
        rw [List.map_id] at this
        exact this
      · refine tiredN_map _ _ fun u hu v hv => ?_
        unfold tiredB
        have e : (tog a c).obj (togW a.houses.length a.objects.length u).item = togO a.houses.length (c.obj u.item) := tog_obj2 (hC u hu).i0 (hC u hu).i1
        rw [e]
        have e2 : decide ((togW a.houses.length a.objects.length u).item = (togW a.houses.length a.objects.length v).item) = decide (u.item = v.item) := by
          rw [Bool.eq_iff_iff, decide_eq_true_iff, decide_eq_true_iff]
          show u.item + _ = v.item + _ ↔ _
          omega
        rw [e2]; rfl
    · intro u hu v hv
      obtain ⟨w, hw, rfl⟩ := List.mem_map.mp hv
      have p1 := (hA u hu).i1
      have p2 := (hC w hw).i0
      unfold tiredB
      rw [decide_eq_false (by show ¬ u.item = w.item + _; omega)]; rfl
  have ec : (crowded (tog a c) (named (tog a c) (join a r1 r2))).length = (crowded a (named a r1)).length + (crowded c (named c r2)).length := by
    rw [join_named h1 h2]
    unfold crowded
    show (((a.houses ++ c.houses).zipIdx).flatMap _).length = _
    rw [List.zipIdx_append, List.flatMap_append, List.length_append]
    congr 1
    · congr 1
      refine flatMap_cg fun x hx => ?_
      congr 1
      unfold crowdRow
      have := houses_zip hx
      refine List.filter_congr fun k _ => ?_
      rw [tog_value1 hA hC this.1.2]
    · rw [Nat.zero_add]
      have gen : ∀ (l : List Int) (j : Nat), (((l.zipIdx (a.houses.length + j))).flatMap fun x => (crowdRow (tog a c) (named a r1 ++ (named c r2).map (togW a.houses.length a.objects.length)) x.1 x.2).map fun k => ((x.2 : Int), k)).length = ((l.zipIdx j).flatMap fun x => (crowdRow c (named c r2) x.1 x.2).map fun k => ((x.2 : Int), k)).length := by
        intro l
        induction l with
        | nil => intro j; rfl
        | cons v l ih =>
          intro j
          rw [List.zipIdx_cons, List.zipIdx_cons, List.flatMap_cons, List.flatMap_cons, List.length_append, List.length_append, List.length_map, List.length_map, show a.houses.length + j + 1 = a.houses.length + (j + 1) by omega, ih (j + 1)]
          congr 2
          unfold crowdRow
          refine List.filter_congr fun k _ => ?_
          have e := tog_value2 (A := named a r1) (C := named c r2) hA hC (j : Int) k (by omega)
          show decide (v < valueAt (tog a c) _ ((a.houses.length + j : Nat) : Int) k) = decide (v < valueAt c (named c r2) (j : Int) k)
          rw [show ((a.houses.length + j : Nat) : Int) = (j : Int) + a.houses.length by omega, e]
      have := gen c.houses 0
      rw [Nat.add_zero] at this
      exact this
  rw [kinds_rep, kinds_rep, kinds_rep, eb, et, ec]
  rw [List.perm_iff_count]
  intro k
  simp only [List.count_append, List.count_replicate]
  cases k <;> simp <;> omega
theorem all_join (t : Tg a c) : allW (tog a c) = join a (allW a) (allW c) := by
  unfold allW join mv
  rw [tog_wl, range_app]
end
/-! what is drawn -/
structure Plan.Lt (p : Plan) : Prop where
  h2 : p.houses.length = 2
  hs : ∀ x ∈ p.houses, 5 ≤ x ∧ x ≤ 13
  o1 : 1 ≤ p.objects.length
  o2 : p.objects.length ≤ 2
  os : ∀ o ∈ p.objects, (0 ≤ o.home ∧ o.home < 2) ∧ (1 ≤ o.value ∧ o.value ≤ 9) ∧ (0 ≤ o.rest ∧ o.rest ≤ 4) ∧ (4 ≤ o.light ∧ o.light ≤ 15)
  w4 : p.wishes.length ≤ 4
  ws : ∀ w ∈ p.wishes, (0 ≤ w.item ∧ w.item < p.objects.length) ∧ w.house = 1 - (p.obj w.item).home ∧ (0 ≤ w.first ∧ w.first ≤ 15) ∧ w.first ≤ w.last ∧ w.last ≤ w.first + 6
theorem Plan.Lt.ok {p : Plan} (h : p.Lt) : p.Ok := by
  obtain ⟨a, c, d, e, f, w4, g⟩ := h
  refine ⟨by omega, by omega, fun x hx => ?_, d, by omega, fun o ho => ?_, by omega, fun w hw => ?_⟩
  · have := c x hx; omega
  · obtain ⟨⟨q1, q2⟩, q3, q4, q5⟩ := f o ho
    exact ⟨q1, by omega, by omega, by omega, by omega, by omega, by omega, by omega⟩
  · obtain ⟨⟨q1, q2⟩, q5, q6, q7, q8⟩ := g w hw
    obtain ⟨⟨r1, r2⟩, _⟩ := f _ (p.obj_mem q1 q2)
    exact ⟨by omega, by omega, q1, q2, by omega, q6.1, q7, by omega⟩
theorem Plan.Lt.tg {a c : Plan} (h : a.Lt) (k : c.Lt) : Tg a c := ⟨h.ok, k.ok, by have := h.h2; have := k.h2; omega, by have := h.o2; have := k.o2; omega, by have := h.w4; have := k.w4; omega⟩
def c_law_little : Ct := ⟨Unit, fun _ => [], fun _ => True, fun _ d => ∃ p : Plan, d = eP p ∧ p.Lt⟩
def c_law_together : Ct := ⟨Plan × Plan, fun a => [eP a.1, eP a.2], fun a => Tg a.1 a.2, fun a => Eq (eP (tog a.1 a.2))⟩
def c_law_moved : Ct := ⟨List Int × Int, fun a => [eT a.1, .int a.2], fun _ => True, fun a => Eq (eT (mv a.2 a.1))⟩
theorem clashes_16 {p : Plan} (hp : p.Ok) (h4 : p.wishes.length ≤ 4) : (clashesOf p).length ≤ 16 := Nat.le_trans (clashes_le hp) (Nat.pow_le_pow_right (n := 2) (by decide) h4)
end Mus

namespace Mus
open PySem PySem.Spec PyProof.Rows L2 PL
def topS (i : Nat) : Stmt := PySem.Challenge.pw_museumloans_k30_whole_two_parts.main.body.getD i (.Pass ⟨0, 0, 0, 0⟩)
section
variable {P : Program} {w : World} {K : PySem.W.Frag} {mg : Str → Option Value} {base : Heap}

abbrev s_law_begun : Stmt := topS 52
abbrev n_law_begun : List Str := []
theorem sc_law_begun : FnScope n_law_begun [] (defScope s_law_begun) := ⟨rfl, rfl, rfl, by decide +kernel, rfl, by decide +kernel, by decide +kernel⟩
theorem d_law_begun {f fd} (A : DefAt K mg "_law_begun" s_law_begun [] f fd) (B : Bt mg) : DefB P w K mg base 1 "_law_begun" := by
  exact defB_mk A sc_law_begun ⟨[], rfl, rfl⟩

abbrev s_law_draw : Stmt := topS 51
abbrev n_law_draw : List Str := ["_law_script", "_law_town", "_law_many", "_law_at", "_law_rest", "_law_number"]
theorem sc_law_draw : FnScope n_law_draw ["_law_script", "_law_town", "_law_many"] (defScope s_law_draw) := ⟨rfl, rfl, rfl, by decide +kernel, rfl, by decide +kernel, by decide +kernel⟩
theorem d_law_draw {f fd} (A : DefAt K mg "_law_draw" s_law_draw ["_law_script", "_law_town", "_law_many"] f fd) (B : Bt mg) : DefT P w K mg base 1 "_law_draw" ["_law_script", "_law_town", "_law_many"] c_law_draw := by
  refine defT_mk A sc_law_draw (fun _ => rfl) fun (m : Int) sa t r ns ⟨m1, m2⟩ hn cdv Ar outer s H E hr => ?_
  show HSs _ _ [.mt (scr K sa ns), .mt (twn t r), .dat (.int m), .un, .un, .un] _
  refine hs_count (C := fun _ => True) hr 1 rfl (evn_add (evn_count hr 1) (evn_int (P := fun _ => True) ev_int trivial) (fun _ _ _ _ => trivial)) ?_
  refine hs_setN (i := 3) (D := II fun k => 0 ≤ k ∧ k < 63 ∧ (ns.isEmpty = false → k < ns.length)) sc_law_draw.nd rfl (Or.inl rfl) rfl (evn_if (et_scr 0) (fun hne => evn_mod (P := fun _ => True) (Q := fun j => j = ns.length) (evn_count hr 1) (evn_int (ev_scrLen 0 rfl (by rfl) B.len) rfl) fun i j _ hj => ?_) (fun h0 => evn_int ev_int ?_)) fun d ⟨at_, hd, h1, h2, h3⟩ => ?_
  · subst hj
    have : 0 < ns.length := by
      cases ns with
      | nil => cases hne
      | cons _ _ => exact Nat.succ_pos _
    have q1 := Int.emod_nonneg i (show (ns.length : Int) ≠ 0 by omega)
    have q2 := Int.emod_lt_of_pos i (show (0 : Int) < ns.length by omega)
    exact ⟨by omega, q1, by omega, fun _ => q2⟩
  · refine ⟨by decide, by decide, fun z => ?_⟩
    rw [z] at h0; cases h0
  subst hd
  refine hs_setN (i := 4) (D := II fun _ => True) sc_law_draw.nd rfl (Or.inl rfl) rfl (evn_rest hr 1 rfl (evn_int (vr 3) trivial) (evn_if (et_scr 0) (fun hne => evn_scrAt 0 rfl (evn_int (vr 3) ⟨h1, h3 (by cases ns with | nil => cases hne | cons _ _ => rfl)⟩)) fun _ => evn_int ev_int trivial)) fun d ⟨rest, hd, _⟩ => ?_
  subst hd
  show HSs _ _ [.mt (scr K sa ns), .mt (twn t r), .dat (.int m), .dat (.int at_), .dat (.int rest), .un] _
  refine hs_if0 (et_ge (vr 4) (ev_pow ev_int ev_int ⟨by decide, by decide, by decide⟩)) (fun _ => ?_) fun _ => ?_
  · refine hs_rest hr 1 rfl (evn_int (ev_fdiv (vr 4) (vr 2) ⟨by omega, by omega⟩) trivial) (evn_int (vr 3) ⟨h1, h2⟩) ?_
    exact hs_ret (ev_mod (vr 4) (vr 2) (by omega)) ⟨⟨_, rfl, Int.emod_nonneg _ (by omega), Int.emod_lt_of_pos _ (by omega)⟩, rfl⟩
  · refine hs_setN (i := 5) (D := II fun k => 0 ≤ k ∧ k < 4294967291) sc_law_draw.nd rfl (Or.inl rfl) rfl (evn_mod (P := fun _ => True) (Q := fun j => j = 4294967291) (evn_add (P := fun _ => True) (Q := fun _ => True) (evn_int (vr 4) trivial) (evn_mul (P := fun i => i = 104729) (Q := fun _ => True) (evn_int ev_int rfl) (evn_count hr 1) fun i j hi _ => ⟨Or.inl (by subst hi; decide), trivial⟩) fun _ _ _ _ => trivial) (evn_int ev_int rfl) fun i j _ hj => ?_) fun d ⟨n1, hd, g1, g2⟩ => ?_
    · subst hj
      exact ⟨by decide, Int.emod_nonneg _ (by decide), Int.emod_lt_of_pos _ (by decide)⟩
    subst hd
    refine hs_setN (i := 5) (D := II fun k => 0 ≤ k ∧ k < 4294967279) sc_law_draw.nd rfl (Or.inl rfl) rfl (evn_int (ev_mod (ev_pow (vr 5) ev_int ⟨by decide, by decide, by omega⟩) ev_int (by decide)) ⟨Int.emod_nonneg _ (by decide), Int.emod_lt_of_pos _ (by decide)⟩) fun d ⟨n2, hd, g3, g4⟩ => ?_
    subst hd
    exact hs_ret (ev_mod (ev_fdiv (ev_mod (ev_add (ev_mul (ev_fdiv (vr 5) ev_int ⟨by decide, by decide⟩) ev_int (Or.inr (by decide))) (vr 5)) ev_int (by decide)) ev_int ⟨by decide, by decide⟩) (vr 2) (by omega)) ⟨⟨_, rfl, Int.emod_nonneg _ (by omega), Int.emod_lt_of_pos _ (by omega)⟩, rfl⟩

abbrev s_law_little : Stmt := topS 53
abbrev n_law_little : List Str := ["_law_script", "_law_town", "_law_objects", "_law_rows", "_law_k", "_law_home", "_law_worth", "_law_rest", "_law_at", "_law_first", "_law_last"]
theorem sc_law_little : FnScope n_law_little ["_law_script", "_law_town"] (defScope s_law_little) := ⟨rfl, rfl, rfl, by decide +kernel, rfl, by decide +kernel, by decide +kernel⟩
theorem d_law_little {f fd} (A : DefAt K mg "_law_little" s_law_little ["_law_script", "_law_town"] f fd) (B : Bt mg) (h_law_draw : DefT P w K mg base 1 "_law_draw" ["_law_script", "_law_town", "_law_many"] c_law_draw) : DefT P w K mg base 2 "_law_little" ["_law_script", "_law_town"] c_law_little := by
  refine defT_mk A sc_law_little (fun _ => rfl) fun (_ : Unit) sa t r ns _ hns cdv Ar outer s H E hr => ?_
  show HSs _ _ [.mt (scr K sa ns), .mt (twn t r), .un, .un, .un, .un, .un, .un, .un, .un, .un] _
  refine hs_asg (ρ1 := [.mt (scr K sa ns), .mt (twn t r), .dat (.tuple []), .dat (.tuple []), .un, .un, .un, .un, .un, .un, .un]) (js := [2, 3]) (ev_tup (ea_cons (ev_tup ea_nil) (ea_cons (ev_tup ea_nil) ea_nil))) (eg_tup rfl (.cons (eg_name 2 sc_law_little.nd) (.cons (eg_name 3 sc_law_little.nd) .nil rfl) rfl)) ?_
  refine hs_for (E := fun ds => ∃ n : Nat, ds = (rangeD 0 n).map PyData.int ∧ 1 ≤ n ∧ n ≤ 2) (fun _ i ρ => ∃ os : List Obj, ρ = [.mt (scr K sa ns), .mt (twn t r), .dat (.tuple (os.map eO)), .dat (.tuple []), .un, .un, .un, .un, .un, .un, .un] ∧ os.length = i ∧
    ∀ o ∈ os, (0 ≤ o.home ∧ o.home < 2) ∧ (1 ≤ o.value ∧ o.value ≤ 9) ∧ (0 ≤ o.rest ∧ o.rest ≤ 4) ∧ (4 ≤ o.light ∧ o.light ≤ 15)) (fun _ => False) PassesOwn.never rfl
    (ein_range1 (by rfl) B.range (evn_add (P := fun i => i = 1) (R := fun i => 1 ≤ i ∧ i ≤ 2) (evn_int ev_int rfl) (evn_drawI h_law_draw 0 1 hr (by rfl) ev_int (by decide) (by decide)) fun i j hi ⟨h1, h2⟩ => by omega) fun d ⟨i, hd, h1, h2⟩ => ⟨i, hd, by omega, by omega, i.toNat, rfl, by omega, by omega⟩)
    (fun ds _ => ⟨[], rfl, rfl, by simp⟩) (fun ds i d ρ1 ⟨n, hE, n1, n2⟩ hd ⟨os, hρ, hl, ho⟩ => ?_) (fun ds ρ1 ⟨n, hE, n1, n2⟩ ⟨os, hρ, hl, ho⟩ => ?_) (fun _ z => z.elim)
  · subst hρ
    have hi3 : i < 2 := by
      have := (List.getElem?_eq_some_iff.mp hd).1
      rw [hE, List.length_map, rangeD_len] at this
      omega
    refine ⟨_, [4], eg_name 4 sc_law_little.nd, ?_⟩
    refine hs_setN (i := 5) (D := II fun i => 0 ≤ i ∧ i < 2) sc_law_little.nd rfl (Or.inl rfl) rfl (evn_drawI h_law_draw 0 1 hr (by rfl) ev_int (by decide) (by decide)) fun d ⟨home, hd, g1, g2⟩ => ?_
    subst hd
    refine hs_setN (i := 6) (D := II fun i => 1 ≤ i ∧ i ≤ 9) sc_law_little.nd rfl (Or.inl rfl) rfl (evn_add (P := fun i => i = 1) (evn_int ev_int rfl) (evn_drawI h_law_draw 0 1 hr (by rfl) ev_int (by decide) (by decide)) fun i j hi ⟨h1, h2⟩ => by omega) fun d ⟨worth, hd, g3, g4⟩ => ?_
    subst hd
    refine hs_setN (i := 7) (D := II fun i => 0 ≤ i ∧ i < 5) sc_law_little.nd rfl (Or.inl rfl) rfl (evn_drawI h_law_draw 0 1 hr (by rfl) ev_int (by decide) (by decide)) fun d ⟨rest, hd, g5, g6⟩ => ?_
    subst hd
    refine hs_setN (i := 2) (D := fun d => ∃ l, d = .tuple ((os ++ [(⟨home, worth, rest, l⟩ : Obj)]).map eO) ∧ 4 ≤ l ∧ l ≤ 15) sc_law_little.nd rfl (Or.inl rfl) rfl
      (evn_catT (A := fun xs => xs = os.map eO) (B := fun ys => ∃ l, ys = [eO ⟨home, worth, rest, l⟩] ∧ 4 ≤ l ∧ l ≤ 15) (evn_pure (D := fun d => ∃ xs, d = .tuple xs ∧ xs = os.map eO) (vr 2) ⟨_, rfl, rfl⟩)
        (evn_tup (ean_cons (A := fun d => ∃ l, d = eO ⟨home, worth, rest, l⟩ ∧ 4 ≤ l ∧ l ≤ 15) (evn_tup (ean_cons (vr 5) (ean_cons (vr 6) (ean_cons (vr 7) (ean_cons (evn_add (P := fun i => i = 4) (Q := fun j => 0 ≤ j ∧ j < 12) (R := fun l => 4 ≤ l ∧ l ≤ 15) (evn_int ev_int rfl) (evn_drawI h_law_draw 0 1 hr (by rfl) ev_int (by decide) (by decide)) fun i j hi hj => by omega) ea_nil)))) ?_) ea_nil) ?_) ?_) fun d ⟨l, hd, g7, g8⟩ => ?_
    · rintro ds ⟨_, _, e1, rfl, _, _, e2, rfl, _, _, e3, rfl, _, _, e4, ⟨l, rfl, hl⟩, rfl⟩
      subst e4; subst e3; subst e2; subst e1
      exact ⟨by show 4 ≤ 4096; decide, l, rfl, hl⟩
    · rintro ds ⟨_, _, e1, ⟨l, rfl, hl⟩, rfl⟩
      subst e1
      exact ⟨by show 1 ≤ 4096; decide, _, rfl, l, rfl, hl⟩
    · rintro xs ys rfl ⟨l, rfl, hl⟩
      refine ⟨by rw [List.length_map]; show _ ≤ 4096; simp; omega, l, by rw [List.map_append]; rfl, hl⟩
    · subst hd
      refine hs_nilW [4, 5, 6, 7] ⟨os ++ [⟨home, worth, rest, l⟩], rfl, by simp [hl], fun o ho' => ?_⟩
      rcases List.mem_append.mp ho' with q | q
      · exact ho o q
      · rw [List.mem_singleton.mp q]
        exact ⟨⟨g1, g2⟩, ⟨g3, g4⟩, ⟨g5, by show rest ≤ 4; omega⟩, g7, g8⟩
  · subst hρ
    have ho1 : 1 ≤ os.length := by rw [hl, hE, List.length_map, rangeD_len]; omega
    have ho3 : os.length ≤ 2 := by rw [hl, hE, List.length_map, rangeD_len]; omega
    clear hl hE
    show HSs _ _ [.mt (scr K sa ns), .mt (twn t r), .dat (.tuple (os.map eO)), .dat (.tuple []), .un, .un, .un, .un, .un, .un, .un] _
    refine hs_for (E := fun ds => ∃ n : Nat, ds = (rangeD 0 n).map PyData.int ∧ (n : Int) ≤ 4) (fun _ i ρ => ∃ ws : List Wish, ρ = [.mt (scr K sa ns), .mt (twn t r), .dat (.tuple (os.map eO)), .dat (.tuple (ws.map eW)), .un, .un, .un, .un, .un, .un, .un] ∧ ws.length = i ∧
      (∀ w ∈ ws, (0 ≤ w.item ∧ w.item < os.length) ∧ w.house = 1 - ((Plan.mk [] os ws).obj w.item).home ∧ (0 ≤ w.first ∧ w.first ≤ 15) ∧ w.first ≤ w.last ∧ w.last ≤ w.first + 6)) (fun _ => False) PassesOwn.never rfl
      (ein_range1 (by rfl) B.range (evn_drawI h_law_draw 0 1 hr (by rfl) ev_int (by decide) (by decide)) fun d ⟨i, hd, h1, h2⟩ => ⟨i, hd, by omega, by omega, i.toNat, rfl, by omega⟩)
      (fun ds _ => ⟨[], rfl, rfl, by simp⟩) (fun ds i d ρ1 ⟨n, hE, n1⟩ hd ⟨ws, hρ, hl, hw⟩ => ?_) (fun ds ρ1 ⟨n, hE, n1⟩ ⟨ws, hρ, hl, hw⟩ => ?_) (fun _ z => z.elim)
    · subst hρ
      have hi8 : (i : Int) < 4 := by
        have := (List.getElem?_eq_some_iff.mp hd).1
        rw [hE, List.length_map, rangeD_len] at this
        omega
      refine ⟨_, [4], eg_name 4 sc_law_little.nd, ?_⟩
      refine hs_parN (E := fun ds => ∃ a f : Int, ds = [.int a, .int f] ∧ (0 ≤ a ∧ a < os.length) ∧ 0 ≤ f ∧ f < 16) [("_law_at", 8), ("_law_first", 9)] rfl sc_law_little.nd rfl
        (ean_imp (ean_cons (evn_draw (Q := fun i => i = os.length) (R := fun i => 0 ≤ i ∧ i < os.length) h_law_draw 0 1 hr (by rfl) (evn_int (ev_eq' (ev_lenT (by rfl) B.len (vr 2)) (by rw [List.length_map])) rfl) fun m' hm' => ⟨by omega, by omega, fun i h1 h2 => by omega⟩)
          (ean_cons (evn_drawI h_law_draw 0 1 hr (by rfl) ev_int (by decide) (by decide)) ea_nil)) ?_) ?_ (by decide) (fun ds ⟨a, f, hd, ha, hf⟩ => ?_) rfl
      · rintro ds ⟨_, _, e1, ⟨a, rfl, ha⟩, _, _, e2, ⟨f, rfl, hf⟩, rfl⟩
        subst e2; subst e1
        exact ⟨a, f, rfl, ha, hf⟩
      · rintro ds ⟨a, f, rfl, _⟩
        rfl
      · subst hd
        show HSs _ _ [.mt (scr K sa ns), .mt (twn t r), .dat (.tuple (os.map eO)), .dat (.tuple (ws.map eW)), .dat _, .un, .un, .un, .dat (.int a), .dat (.int f), .un] _
        refine hs_setN (i := 10) (D := II fun l => f ≤ l ∧ l ≤ f + 6) sc_law_little.nd rfl (Or.inl rfl) rfl (evn_add (P := fun i => i = f) (Q := fun j => 0 ≤ j ∧ j < 7) (evn_int (vr 9) rfl) (evn_drawI h_law_draw 0 1 hr (by rfl) ev_int (by decide) (by decide)) fun i j hi hj => by omega) fun d ⟨l, hd, g7, g8⟩ => ?_
        subst hd
        refine hs_set (i := 3) (d := .tuple ((ws ++ [(⟨1 - ((Plan.mk [] os ws).obj a).home, a, f, l⟩ : Wish)]).map eW)) sc_law_little.nd rfl (Or.inl rfl) rfl (ev_eq' (ev_catT (vr 3) (ev_tup (ea_cons (ev_tup (ea_cons (ev_sub ev_int (ev_ix (ev_ix (vr 2) (vr 8) (Plan.at_obj (p := ⟨[], os, ws⟩) ha.1 ha.2)) ev_int rfl)) (ea_cons (vr 8) (ea_cons (vr 9) (ea_cons (vr 10) ea_nil))))) ea_nil)) ?_) ?_) ?_
        · rw [List.length_map]; show ws.length + 1 ≤ 4096; omega
        · rw [List.map_append]; rfl
        · refine hs_nilW [4, 8, 9, 10] ⟨ws ++ [⟨1 - ((Plan.mk [] os ws).obj a).home, a, f, l⟩], rfl, by simp [hl], fun w hw' => ?_⟩
          rcases List.mem_append.mp hw' with q | q
          · exact hw w q
          · rw [List.mem_singleton.mp q]
            exact ⟨ha, rfl, ⟨hf.1, by show f ≤ 15; omega⟩, g7, g8⟩
    · subst hρ
      have hw4 : ws.length ≤ 4 := by rw [hl, hE, List.length_map, rangeD_len]; omega
      have dr : ∀ {k : Int}, EvN (cxOf CX0 P w K mg base n_law_little "_law_little" (defScope s_law_little) f cdv Ar outer s H E).nox [.mt (scr K sa ns), .mt (twn t r), .dat (.tuple (os.map eO)), .dat (.tuple (ws.map eW)), .un, .un, .un, .un, .un, .un, .un] (.Constant (.int k) 0 ⟨0, 0, 0, 0⟩) (II fun i => i = k) := fun {k} => evn_int ev_int rfl
      refine hs_retN (D := fun d => ∃ h1 h2 : Int, (5 ≤ h1 ∧ h1 ≤ 13) ∧ (5 ≤ h2 ∧ h2 ≤ 13) ∧ d = eP ⟨[h1, h2], os, ws⟩) (evn_tup (ean_cons (A := fun d => ∃ h1 h2 : Int, (5 ≤ h1 ∧ h1 ≤ 13) ∧ (5 ≤ h2 ∧ h2 ≤ 13) ∧ d = eT [h1, h2]) (evn_tup (ean_cons (evn_add (P := fun i => i = 5) (Q := fun j => 0 ≤ j ∧ j < 9) (R := fun l => 5 ≤ l ∧ l ≤ 13) (evn_int ev_int rfl) (evn_drawI h_law_draw 0 1 hr (by rfl) ev_int (by decide) (by decide)) fun i j hi hj => by omega) (ean_cons (evn_add (P := fun i => i = 5) (Q := fun j => 0 ≤ j ∧ j < 9) (R := fun l => 5 ≤ l ∧ l ≤ 13) (evn_int ev_int rfl) (evn_drawI h_law_draw 0 1 hr (by rfl) ev_int (by decide) (by decide)) fun i j hi hj => by omega) ea_nil)) ?_) (ean_cons (vr 2) (ean_cons (vr 3) ea_nil))) ?_) fun d ⟨h1, h2, b1, b2, hd⟩ => ⟨⟨⟨[h1, h2], os, ws⟩, hd, ⟨rfl, fun x hx => ?_, ho1, ho3, ho, hw4, hw⟩⟩, rfl⟩
      · rintro ds ⟨_, _, e1, ⟨x1, rfl, c1⟩, _, _, e2, ⟨x2, rfl, c2⟩, rfl⟩
        subst e2; subst e1
        exact ⟨by show 2 ≤ 4096; decide, x1, x2, c1, c2, rfl⟩
      · rintro ds ⟨_, _, e1, ⟨x1, x2, c1, c2, rfl⟩, _, _, e2, rfl, _, _, e3, rfl, rfl⟩
        subst e3; subst e2; subst e1
        exact ⟨by show 3 ≤ 4096; decide, x1, x2, c1, c2, rfl⟩
      · simp only [List.mem_cons, List.not_mem_nil, or_false] at hx
        rcases hx with e | e <;> rw [e] <;> assumption

abbrev s_law_together : Stmt := topS 54
abbrev n_law_together : List Str := ["_law_one", "_law_other", "_law_houses", "_law_many", "_law_thing", "_law_objects", "_law_row", "_law_wishes"]
theorem sc_law_together : FnScope n_law_together ["_law_one", "_law_other"] (defScope s_law_together) := ⟨rfl, rfl, rfl, by decide +kernel, rfl, by decide +kernel, by decide +kernel⟩
theorem d_law_together {f fd} (A : DefAt K mg "_law_together" s_law_together ["_law_one", "_law_other"] f fd) (B : Bt mg) : Def P w K mg base 1 "_law_together" ["_law_one", "_law_other"] c_law_together := by
  refine def_mk A sc_law_together (fun _ => rfl) fun (⟨a, c⟩ : Plan × Plan) t0 cdv Ar outer sh H E hr => ?_
  have t : Tg a c := t0
  obtain ⟨ka, kc, l1, l2, l3⟩ := t
  show HSs _ _ [.dat (eP a), .dat (eP c), .un, .un, .un, .un, .un, .un] _
  refine hs_asg (ρ1 := [.dat (eP a), .dat (eP c), .dat (.int (a.houses.length : Nat)), .dat (.int (a.objects.length : Nat)), .un, .un, .un, .un]) (js := [2, 3]) (ev_tup (ea_cons (ev_eq' (ev_lenT (by rfl) B.len (ev_ix (vr 0) ev_int rfl)) (by rw [List.length_map])) (ea_cons (ev_eq' (ev_lenT (by rfl) B.len (ev_ix (vr 0) ev_int rfl)) (by rw [List.length_map])) ea_nil))) (eg_tup rfl (.cons (eg_name 2 sc_law_together.nd) (.cons (eg_name 3 sc_law_together.nd) .nil rfl) rfl)) ?_
  refine hs_set (i := 5) (d := .tuple ((c.objects.map (togO a.houses.length)).map eO)) sc_law_together.nd rfl (by first | exact Or.inl rfl | exact Or.inr rfl) rfl (ev_tupleL (by rfl) B.tuple (ev_lcE0 (enc' := eO) (f := togO a.houses.length) (xs := c.objects) rfl sc_law_together.nd
    (Lc.mk1 (enc := eO) [("_law_thing", 4)] (fun o => [.dat (eP a), .dat (eP c), .dat (.int (a.houses.length : Nat)), .dat (.int (a.objects.length : Nat)), .dat (eO o), .un, .un, .un]) (ei_tup (ev_ix (vr 1) ev_int rfl)) (blkOk_by (N := n_law_together) (sc := defScope s_law_together) (by decide +kernel)) rfl
      (fun x _ s H C cl fp => eg_name 4 sc_law_together.nd) (fun _ _ => rfl) (fun _ _ => rfl) (fun _ _ s H C cl fp => pts_yes)
      (fun o _ _ s H C cl fp => ev_eq' (ev_catT (ev_tup (ea_cons (ev_add (ev_ix (vr 4) ev_int rfl) (vr 2)) ea_nil)) (ev_slT (vr 4) (eo_some ev_int) eo_none) (by rw [cutD_1]; exact Nat.le_of_ble_eq_true rfl)) (by rw [cutD_1]; rfl))))) ?_
  refine hs_set (i := 7) (d := .tuple ((c.wishes.map (togW a.houses.length a.objects.length)).map eW)) sc_law_together.nd rfl (by first | exact Or.inl rfl | exact Or.inr rfl) rfl (ev_tupleL (by rfl) B.tuple (ev_lcE0 (enc' := eW) (f := togW a.houses.length a.objects.length) (xs := c.wishes) rfl sc_law_together.nd
    (Lc.mk1 (enc := eW) [("_law_row", 6)] (fun o => [.dat (eP a), .dat (eP c), .dat (.int (a.houses.length : Nat)), .dat (.int (a.objects.length : Nat)), .un, .dat (.tuple ((c.objects.map (togO a.houses.length)).map eO)), .dat (eW o), .un]) (ei_tup (ev_ix (vr 1) ev_int rfl)) (blkOk_by (N := n_law_together) (sc := defScope s_law_together) (by decide +kernel)) rfl
      (fun x _ s H C cl fp => eg_name 6 sc_law_together.nd) (fun _ _ => rfl) (fun _ _ => rfl) (fun _ _ s H C cl fp => pts_yes)
      (fun o _ _ s H C cl fp => ev_eq' (ev_catT (ev_tup (ea_cons (ev_add (ev_ix (vr 6) ev_int rfl) (vr 2)) (ea_cons (ev_add (ev_ix (vr 6) ev_int rfl) (vr 3)) ea_nil))) (ev_slT (vr 6) (eo_some ev_int) eo_none) (by rw [show (2 : Int) = ((2 : Nat) : Int) from rfl, cutD_from]; exact Nat.le_of_ble_eq_true rfl)) (by rw [show (2 : Int) = ((2 : Nat) : Int) from rfl, cutD_from]; rfl))))) ?_
  refine hs_ret (d := eP (tog a c)) (ev_tup (ea_cons (ev_eq' (db := eT (a.houses ++ c.houses)) (ev_catT (ev_ix (vr 0) ev_int rfl) (ev_ix (vr 1) ev_int rfl) ?_) ?_) (ea_cons (ev_eq' (db := .tuple ((tog a c).objects.map eO)) (ev_catT (ev_ix (vr 0) ev_int rfl) (vr 5) ?_) ?_) (ea_cons (ev_eq' (db := .tuple ((tog a c).wishes.map eW)) (ev_catT (ev_ix (vr 0) ev_int rfl) (vr 7) ?_) ?_) ea_nil)))) rfl
  · rw [List.length_map, List.length_map]; show _ ≤ 4096; omega
  · rw [← List.map_append]
  · rw [List.length_map, List.length_map, List.length_map]; show _ ≤ 4096; omega
  · rw [← List.map_append]; rfl
  · rw [List.length_map, List.length_map, List.length_map]; show _ ≤ 4096; omega
  · rw [← List.map_append]; rfl

abbrev s_law_moved : Stmt := topS 55
abbrev n_law_moved : List Str := ["_law_row", "_law_by", "_law_number"]
theorem sc_law_moved : FnScope n_law_moved ["_law_row", "_law_by"] (defScope s_law_moved) := ⟨rfl, rfl, rfl, by decide +kernel, rfl, by decide +kernel, by decide +kernel⟩
theorem d_law_moved {f fd} (A : DefAt K mg "_law_moved" s_law_moved ["_law_row", "_law_by"] f fd) (B : Bt mg) : Def P w K mg base 1 "_law_moved" ["_law_row", "_law_by"] c_law_moved := by
  refine def_mk A sc_law_moved (fun _ => rfl) fun (⟨l, b⟩ : List Int × Int) _ cdv Ar outer sh H E hr => ?_
  show HSs _ _ [.dat (eT l), .dat (.int b), .un] _
  exact hs_ret (ev_tupleL (by rfl) B.tuple (ev_lcE0 (enc' := PyData.int) (f := fun (x : Int) => x + b) (xs := l) rfl sc_law_moved.nd
    (Lc.mk1 (enc := PyData.int) [("_law_number", 2)] (fun x => [.dat (eT l), .dat (.int b), .dat (.int x)]) (ei_tup (vr 0)) (blkOk_by (N := n_law_moved) (sc := defScope s_law_moved) (by decide +kernel)) rfl
      (fun x _ s H C cl fp => eg_name 2 sc_law_moved.nd) (fun _ _ => rfl) (fun _ _ => rfl) (fun _ _ s H C cl fp => pts_yes)
      (fun x _ _ s H C cl fp => ev_add (vr 2) (vr 1))))) rfl

abbrev s_is_between : Stmt := topS 8
abbrev n_is_between : List Str := ["value", "low", "high"]
theorem sc_is_between : FnScope n_is_between ["value", "low", "high"] (defScope s_is_between) := ⟨rfl, rfl, rfl, by decide +kernel, rfl, by decide +kernel, by decide +kernel⟩
theorem d_is_between {f fd} (A : DefAt K mg "is_between" s_is_between ["value", "low", "high"] f fd) (B : Bt mg) : Def P w K mg base 1 "is_between" ["value", "low", "high"] c_is_between := by
  refine def_mk A sc_is_between (fun _ => rfl) fun ⟨d, lo, hi⟩ _ cdv Ar outer s H E hr => ?_
  show HSs _ _ [.dat d, .dat (.int lo), .dat (.int hi)] _
  refine hs_ret (ev_and (ev_isInt (by rfl) B.isinstance (by rfl) B.int (vr 0)) fun h1 => ev_and (ev_not (ev_isBool (by rfl) B.isinstance (by rfl) B.bool (vr 0))) fun h2 => ev_one ?_) rfl
  cases d with
  | int i => exact ev_lele (vr 1) (vr 0) (vr 2)
  | bool b => cases h2
  | _ => cases h1

abbrev s_is_object : Stmt := topS 10
abbrev n_is_object : List Str := ["houses", "value"]
theorem sc_is_object : FnScope n_is_object ["houses", "value"] (defScope s_is_object) := ⟨rfl, rfl, rfl, by decide +kernel, rfl, by decide +kernel, by decide +kernel⟩
theorem d_is_object {f fd} (A : DefAt K mg "is_object" s_is_object ["houses", "value"] f fd) (B : Bt mg) (h_is_between : Def P w K mg base 1 "is_between" ["value", "low", "high"] c_is_between) : Def P w K mg base 2 "is_object" ["houses", "value"] c_is_object := by
  refine def_mk A sc_is_object (fun _ => rfl) fun ⟨h, d⟩ _ cdv Ar outer s H E hr => ?_
  show HSs _ _ [.dat (.int h), .dat d] _
  by_cases ht : isTup d = true
  · obtain ⟨ds, rfl⟩ := isTup_of ht
    by_cases hl : ds.length = 4
    · obtain ⟨a, b, c, e, rfl⟩ := len4 hl
      refine hs_if0 (b := !isBetween a 0 (h - 1)) (et_orF (et_nt (et_val (ev_isTup (by rfl) B.isinstance (by rfl) B.tuple (vr 1)))) (ew_orF (et_ne hr (ev_lenT (by rfl) B.len (vr 1)) ev_int rfl rfl rfl) (ew_or1 (et_not (et_val (ev_call h_is_between (a, 0, h - 1) hr (by rfl) (ea_cons (ev_ix (vr 1) ev_int rfl) (ea_cons ev_int (ea_cons (ev_sub (vr 0) ev_int) ea_nil))) trivial)))))) (fun h0 => hs_ret ev_bl ?_) fun h0 => ?_
      · show PyData.bool (isObjD h (.tuple [a, b, c, e])) = _
        simp only [Bool.not_eq_true'] at h0
        simp only [isObjD, h0, Bool.false_and]
      · refine hs_ret (ev_and (ev_call h_is_between (b, 1, 20) hr (by rfl) (ea_cons (ev_ix (vr 1) ev_int rfl) (ea_cons ev_int (ea_cons ev_int ea_nil))) trivial) fun _ => ev_and (ev_call h_is_between (c, 0, 9) hr (by rfl) (ea_cons (ev_ix (vr 1) ev_int rfl) (ea_cons ev_int (ea_cons ev_int ea_nil))) trivial) fun _ => ev_one (ev_call h_is_between (e, 1, 40) hr (by rfl) (ea_cons (ev_ix (vr 1) ev_int rfl) (ea_cons ev_int (ea_cons ev_int ea_nil))) trivial)) ?_
        show PyData.bool (isObjD h (.tuple [a, b, c, e])) = _
        simp only [Bool.not_eq_false'] at h0
        simp only [isObjD, h0, Bool.true_and]
    · refine hs_if0 (b := true) (et_orF (et_nt (et_val (ev_isTup (by rfl) B.isinstance (by rfl) B.tuple (vr 1)))) (ew_orT (et_ne hr (ev_lenT (by rfl) B.len (vr 1)) ev_int rfl rfl ?_))) (fun _ => hs_ret ev_bl ?_) (fun z => nomatch z)
      · rw [eqI]
        simp only [Bool.not_eq_true', decide_eq_false_iff_not]
        omega
      · show PyData.bool (isObjD h (.tuple ds)) = _
        unfold isObjD
        split
        · rename_i heq
          cases heq
          exact absurd rfl hl
        · rfl
  · have ht' : isTup d = false := by simpa using ht
    refine hs_if0 (b := true) (et_orT (et_eq' (et_not (et_val (ev_isTup (by rfl) B.isinstance (by rfl) B.tuple (vr 1)))) (by rw [ht']; rfl))) (fun _ => hs_ret ev_bl ?_) (fun z => nomatch z)
    cases d <;> first | rfl | cases ht'

abbrev s_is_wish : Stmt := topS 11
abbrev n_is_wish : List Str := ["houses", "objects", "value"]
theorem sc_is_wish : FnScope n_is_wish ["houses", "objects", "value"] (defScope s_is_wish) := ⟨rfl, rfl, rfl, by decide +kernel, rfl, by decide +kernel, by decide +kernel⟩
theorem d_is_wish {f fd} (A : DefAt K mg "is_wish" s_is_wish ["houses", "objects", "value"] f fd) (B : Bt mg) (g_LAST : G_LAST mg) (h_is_between : Def P w K mg base 1 "is_between" ["value", "low", "high"] c_is_between) : Def P w K mg base 2 "is_wish" ["houses", "objects", "value"] c_is_wish := by
  obtain ⟨tl, g_LAST⟩ := g_LAST
  refine def_mk A sc_is_wish (fun _ => rfl) fun ⟨h, os, d⟩ hos cdv Ar outer s H E hr => ?_
  show HSs _ _ [.dat (.int h), .dat (.tuple os), .dat d] _
  by_cases ht : isTup d = true
  · obtain ⟨ds, rfl⟩ := isTup_of ht
    by_cases hl : ds.length = 4
    · obtain ⟨a, b, c, e, rfl⟩ := len4 hl
      refine hs_if0 (b := !isBetween a 0 (h - 1)) (et_orF (et_nt (et_val (ev_isTup (by rfl) B.isinstance (by rfl) B.tuple (vr 2)))) (ew_orF (et_ne hr (ev_lenT (by rfl) B.len (vr 2)) ev_int rfl rfl rfl) (ew_or1 (et_not (et_val (ev_call h_is_between (a, 0, h - 1) hr (by rfl) (ea_cons (ev_ix (vr 2) ev_int rfl) (ea_cons ev_int (ea_cons (ev_sub (vr 0) ev_int) ea_nil))) trivial)))))) (fun h0 => hs_ret ev_bl ?_) fun h0 => ?_
      · show PyData.bool (isWishD h os (.tuple [a, b, c, e])) = _
        simp only [Bool.not_eq_true'] at h0
        simp only [isWishD, h0, Bool.false_and]
      · simp only [Bool.not_eq_false'] at h0
        obtain ⟨ai, rfl, _⟩ := isBetween_of h0
        refine hs_if0 (b := !isBetween b 0 ((os.length : Int) - 1) || PyData.eqv (homeD (os.getD (toI b).toNat .none)) (.int ai)) (et_or _ _ (et_not (et_val (ev_call h_is_between (b, 0, (os.length : Int) - 1) hr (by rfl) (ea_cons (ev_ix (vr 2) ev_int rfl) (ea_cons ev_int (ea_cons (ev_sub (ev_lenT (by rfl) B.len (vr 1)) ev_int) ea_nil))) trivial))) (fun hb => ?_)) (fun h1 => hs_ret ev_bl ?_) fun h1 => ?_
        · simp only [Bool.not_eq_false'] at hb
          obtain ⟨j, rfl, j0, j1⟩ := isBetween_of hb
          have hj : j.toNat < os.length := by omega
          have hm : os.getD j.toNat .none ∈ os := getD_mem _ j0 (by omega)
          have hat : atI os j = some (os.getD j.toNat .none) := by
            have := at_nat (e := fun x : PyData => x) (xs := os) PyData.none j0 (by omega)
            simpa using this
          have ho := hos _ hm
          change PW _ _ (tT _ (Eq (PyData.eqv (homeD (os.getD j.toNat PyData.none)) (PyData.int ai))))
          generalize os.getD j.toNat .none = o at hat ho ⊢
          obtain ⟨x, r, rfl, hx⟩ : ∃ x r, o = .tuple (x :: r) ∧ isBetween x 0 (h - 1) = true := by
            unfold isObjD at ho
            split at ho
            · rename_i x y z u
              rw [Bool.and_eq_true] at ho
              exact ⟨x, _, rfl, ho.1⟩
            · cases ho
          obtain ⟨xi, rfl, _⟩ := isBetween_of hx
          exact ew_or1 (et_eq hr (ev_ix (ev_ix (vr 1) (ev_ix (vr 2) ev_int rfl) hat) ev_int (atI_nat (j := 0) rfl)) (ev_ix (vr 2) ev_int rfl) rfl rfl rfl)
        · show PyData.bool (isWishD h os (.tuple [.int ai, b, c, e])) = _
          simp only [isWishD, h0, Bool.true_and]
          rw [Bool.or_eq_true, Bool.not_eq_true'] at h1
          rcases h1 with h1 | h1
          · rw [h1]; rfl
          · rw [h1]; simp
        · rw [Bool.or_eq_false_iff, Bool.not_eq_false'] at h1
          refine hs_ret (d := .bool (isBetween e 0 60 && isBetween c 0 (toI e))) (ev_and (ev_call h_is_between (e, (0 : Int), (60 : Int)) hr (by rfl) (ea_cons (ev_ix (vr 2) ev_int rfl) (ea_cons ev_int (ea_cons (ev_globI (by rfl) g_LAST) ea_nil))) trivial) fun he => ?_) ?_
          · obtain ⟨ei, rfl, _⟩ := isBetween_of he
            exact ev_one (ev_call h_is_between (c, 0, ei) hr (by rfl) (ea_cons (ev_ix (vr 2) ev_int rfl) (ea_cons ev_int (ea_cons (ev_ix (vr 2) ev_int rfl) ea_nil))) trivial)
          · show PyData.bool (isWishD h os (.tuple [.int ai, b, c, e])) = _
            simp only [isWishD, h0, h1.1, h1.2, Bool.true_and, Bool.not_false]
    · refine hs_if0 (b := true) (et_orF (et_nt (et_val (ev_isTup (by rfl) B.isinstance (by rfl) B.tuple (vr 2)))) (ew_orT (et_ne hr (ev_lenT (by rfl) B.len (vr 2)) ev_int rfl rfl ?_))) (fun _ => hs_ret ev_bl ?_) (fun z => nomatch z)
      · rw [eqI]
        simp only [Bool.not_eq_true', decide_eq_false_iff_not]
        omega
      · show PyData.bool (isWishD h os (.tuple ds)) = _
        unfold isWishD
        split
        · rename_i heq
          cases heq
          exact absurd rfl hl
        · rfl
  · have ht' : isTup d = false := by simpa using ht
    refine hs_if0 (b := true) (et_orT (et_eq' (et_not (et_val (ev_isTup (by rfl) B.isinstance (by rfl) B.tuple (vr 2)))) (by rw [ht']; rfl))) (fun _ => hs_ret ev_bl ?_) (fun z => nomatch z)
    cases d <;> first | rfl | cases ht'

abbrev s_is_plan : Stmt := topS 12
abbrev n_is_plan : List Str := ["value", "one", "houses", "objects", "wishes"]
theorem sc_is_plan : FnScope n_is_plan ["value"] (defScope s_is_plan) := ⟨rfl, rfl, rfl, by decide +kernel, rfl, by decide +kernel, by decide +kernel⟩
theorem d_is_plan {f fd} (A : DefAt K mg "is_plan" s_is_plan ["value"] f fd) (B : Bt mg) (h_is_between : Def P w K mg base 1 "is_between" ["value", "low", "high"] c_is_between) (h_is_object : Def P w K mg base 2 "is_object" ["houses", "value"] c_is_object) (h_is_wish : Def P w K mg base 2 "is_wish" ["houses", "objects", "value"] c_is_wish) : Def P w K mg base 3 "is_plan" ["value"] c_is_plan := by
  refine def_mk A sc_is_plan (fun _ => rfl) fun d _ cdv Ar outer s H E hr => ?_
  show HSs _ _ [.dat d, .un, .un, .un, .un] _
  have no : ∀ {d : PyData}, isPlanD d = false → PyData.bool (isPlanD d) = .bool false := fun h => by rw [h]
  by_cases ht : isTup d = true
  · obtain ⟨ds, rfl⟩ := isTup_of ht
    by_cases hl : ds.length = 3
    · obtain ⟨a, b, c, rfl⟩ := len3 hl
      refine hs_if0 (b := !(([a, b, c].map isTup).all id)) (et_orF (et_nt (et_val (ev_isTup (by rfl) B.isinstance (by rfl) B.tuple (vr 0)))) (ew_orF (et_ne hr (ev_lenT (by rfl) B.len (vr 0)) ev_int rfl rfl rfl) (ew_or1 (et_not (et_val (ev_all rfl (by rfl) B.all (ev_lcE0 (xs := [a, b, c]) (enc := fun x => x) (enc' := PyData.bool) (f := isTup) rfl sc_is_plan.nd
        (Lc.mk1 [("one", 1)] (fun x => [.dat (.tuple [a, b, c]), .dat x, .un, .un, .un]) (ei_tup (vr 0)) (blkOk_by (N := n_is_plan) (sc := defScope s_is_plan) (by decide +kernel)) rfl
          (fun x _ s H C cl fp => eg_name 1 sc_is_plan.nd) (fun _ _ => rfl) (fun _ _ => rfl) (fun x _ s H C cl fp => pts_yes)
          (fun x _ _ s H C cl fp => ev_isTup (by rfl) B.isinstance (by rfl) B.tuple (vr 1)))))))))) (fun h0 => hs_ret ev_bl (no ?_)) fun h0 => ?_
      · simp only [Bool.not_eq_true', List.all_map, List.all_cons, List.all_nil, Bool.and_true, Bool.and_eq_false_iff, Function.comp, id] at h0
        unfold isPlanD
        split
        · rename_i heq
          cases heq
          simp [isTup] at h0
        · rfl
      · simp only [Bool.not_eq_false', List.all_map, List.all_cons, List.all_nil, Bool.and_true, Bool.and_eq_true, Function.comp, id] at h0
        obtain ⟨hs, rfl⟩ := isTup_of h0.1
        obtain ⟨os, rfl⟩ := isTup_of h0.2.1
        obtain ⟨ws, rfl⟩ := isTup_of h0.2.2
        refine hs_asg (ρ1 := [.dat (.tuple [.tuple hs, .tuple os, .tuple ws]), .un, .dat (.tuple hs), .dat (.tuple os), .dat (.tuple ws)]) (js := [2, 3, 4]) (vr 0) (eg_tup rfl (.cons (eg_name 2 sc_is_plan.nd) (.cons (eg_name 3 sc_is_plan.nd) (.cons (eg_name 4 sc_is_plan.nd) .nil rfl) rfl) rfl)) ?_
        have step : PyData.bool (isPlanD (.tuple [.tuple hs, .tuple os, .tuple ws])) = .bool ((decide (1 ≤ hs.length) && decide (hs.length ≤ 4)) && ((hs.all fun x => isBetween x 0 40) && ((decide (1 ≤ os.length) && decide (os.length ≤ 4)) && ((os.all fun x => isObjD hs.length x) && (decide (ws.length ≤ 8) && ws.all fun x => isWishD hs.length os x))))) := rfl
        have dec : ∀ a b : Nat, decide ((a : Int) ≤ (b : Int)) = decide (a ≤ b) := fun a b => by
          rw [Bool.eq_iff_iff, decide_eq_true_iff, decide_eq_true_iff]; omega
        have d1 : ∀ a : Nat, (decide ((1 : Int) ≤ (a : Int)) && decide ((a : Int) ≤ 4)) = (decide (1 ≤ a) && decide (a ≤ 4)) := fun a => by
          rw [show (1 : Int) = ((1 : Nat) : Int) from rfl, show (4 : Int) = ((4 : Nat) : Int) from rfl, dec, dec]
        refine hs_if0 (b := !(decide (1 ≤ hs.length) && decide (hs.length ≤ 4)) || !((hs.map fun x => isBetween x 0 40).all id)) (et_or _ _ (et_eq' (et_not (et_lele ev_int (ev_lenT (by rfl) B.len (vr 2)) ev_int)) (by rw [d1])) fun _ => ew_or1 (et_not (et_val (ev_all rfl (by rfl) B.all (ev_lcE0 (xs := hs) (enc := fun x => x) (enc' := PyData.bool) (f := fun x => isBetween x 0 40) rfl sc_is_plan.nd
          (Lc.mk1 [("one", 1)] (fun x => [.dat (.tuple [.tuple hs, .tuple os, .tuple ws]), .dat x, .dat (.tuple hs), .dat (.tuple os), .dat (.tuple ws)]) (ei_eq (ei_tup (vr 2)) (List.map_id _).symm) (blkOk_by (N := n_is_plan) (sc := defScope s_is_plan) (by decide +kernel)) rfl
            (fun x _ s H C cl fp => eg_name 1 sc_is_plan.nd) (fun _ _ => rfl) (fun _ _ => rfl) (fun x _ s H C cl fp => pts_yes)
            (fun x _ _ s H C cl fp => ev_call h_is_between (x, 0, 40) hr (by rfl) (ea_cons (vr 1) (ea_cons ev_int (ea_cons ev_int ea_nil))) trivial))))))) (fun h1 => hs_ret ev_bl (no ?_)) fun h1 => ?_
        · rw [PyData.bool.inj step]
          rw [List.all_map, Function.id_comp] at h1
          rw [Bool.or_eq_true, Bool.not_eq_true', Bool.not_eq_true'] at h1
          rcases h1 with h1 | h1
          · rw [h1]; rfl
          · rw [h1]; simp
        · rw [List.all_map, Function.id_comp, Bool.or_eq_false_iff, Bool.not_eq_false', Bool.not_eq_false'] at h1
          refine hs_if0 (b := !(decide (1 ≤ os.length) && decide (os.length ≤ 4)) || !((os.map fun x => isObjD hs.length x).all id)) (et_or _ _ (et_eq' (et_not (et_lele ev_int (ev_lenT (by rfl) B.len (vr 3)) ev_int)) (by rw [d1])) fun _ => ew_or1 (et_not (et_val (ev_all rfl (by rfl) B.all (ev_lcE0 (xs := os) (enc := fun x => x) (enc' := PyData.bool) (f := fun x => isObjD hs.length x) rfl sc_is_plan.nd
            (Lc.mk1 [("one", 1)] (fun x => [.dat (.tuple [.tuple hs, .tuple os, .tuple ws]), .dat x, .dat (.tuple hs), .dat (.tuple os), .dat (.tuple ws)]) (ei_eq (ei_tup (vr 3)) (List.map_id _).symm) (blkOk_by (N := n_is_plan) (sc := defScope s_is_plan) (by decide +kernel)) rfl
              (fun x _ s H C cl fp => eg_name 1 sc_is_plan.nd) (fun _ _ => rfl) (fun _ _ => rfl) (fun x _ s H C cl fp => pts_yes)
              (fun x _ _ s H C cl fp => ev_call h_is_object ((hs.length : Int), x) hr (by rfl) (ea_cons (ev_lenT (by rfl) B.len (vr 2)) (ea_cons (vr 1) ea_nil)) trivial))))))) (fun h2 => hs_ret ev_bl (no ?_)) fun h2 => ?_
          · rw [PyData.bool.inj step, h1.1, h1.2]
            rw [List.all_map, Function.id_comp] at h2
            rw [Bool.or_eq_true, Bool.not_eq_true', Bool.not_eq_true'] at h2
            rcases h2 with h2 | h2
            · rw [h2]; rfl
            · rw [h2]; simp
          · rw [List.all_map, Function.id_comp, Bool.or_eq_false_iff, Bool.not_eq_false', Bool.not_eq_false'] at h2
            refine hs_ret (d := .bool (decide (ws.length ≤ 8) && (ws.map fun x => isWishD hs.length os x).all id)) (ev_and (ev_eq' (ev_le (ev_lenT (by rfl) B.len (vr 4)) ev_int) (by rw [show (8 : Int) = ((8 : Nat) : Int) from rfl, dec])) fun _ => ev_one (ev_all rfl (by rfl) B.all (ev_lcE0 (xs := ws) (enc := fun x => x) (enc' := PyData.bool) (f := fun x => isWishD hs.length os x) rfl sc_is_plan.nd
              (Lc.mk1 [("one", 1)] (fun x => [.dat (.tuple [.tuple hs, .tuple os, .tuple ws]), .dat x, .dat (.tuple hs), .dat (.tuple os), .dat (.tuple ws)]) (ei_eq (ei_tup (vr 4)) (List.map_id _).symm) (blkOk_by (N := n_is_plan) (sc := defScope s_is_plan) (by decide +kernel)) rfl
                (fun x _ s H C cl fp => eg_name 1 sc_is_plan.nd) (fun _ _ => rfl) (fun _ _ => rfl) (fun x _ s H C cl fp => pts_yes)
                (fun x _ _ s H C cl fp => ev_call h_is_wish ((hs.length : Int), os, x) hr (by rfl) (ea_cons (ev_lenT (by rfl) B.len (vr 2)) (ea_cons (vr 3) (ea_cons (vr 1) ea_nil))) (List.all_eq_true.mp h2.2)))))) ?_
            show PyData.bool _ = _
            rw [PyData.bool.inj step, h1.1, h1.2, h2.1, h2.2, List.all_map]
            rfl
    · refine hs_if0 (b := true) (et_orF (et_nt (et_val (ev_isTup (by rfl) B.isinstance (by rfl) B.tuple (vr 0)))) (ew_orT (et_ne hr (ev_lenT (by rfl) B.len (vr 0)) ev_int rfl rfl ?_))) (fun _ => hs_ret ev_bl (no ?_)) (fun z => nomatch z)
      · rw [eqI]
        simp only [Bool.not_eq_true', decide_eq_false_iff_not]
        omega
      · unfold isPlanD
        split
        · rename_i heq
          cases heq
          exact absurd rfl hl
        · rfl
  · have ht' : isTup d = false := by simpa using ht
    refine hs_if0 (b := true) (et_orT (et_eq' (et_not (et_val (ev_isTup (by rfl) B.isinstance (by rfl) B.tuple (vr 0)))) (by rw [ht']; rfl))) (fun _ => hs_ret ev_bl ?_) (fun z => nomatch z)
    cases d <;> first | rfl | cases ht'

abbrev s_check_plan : Stmt := topS 13
abbrev n_check_plan : List Str := ["plan"]
theorem sc_check_plan : FnScope n_check_plan ["plan"] (defScope s_check_plan) := ⟨rfl, rfl, rfl, by decide +kernel, rfl, by decide +kernel, by decide +kernel⟩
theorem d_check_plan {f fd} (A : DefAt K mg "check_plan" s_check_plan ["plan"] f fd) (B : Bt mg) (h_is_plan : Def P w K mg base 3 "is_plan" ["value"] c_is_plan) : Def P w K mg base 4 "check_plan" ["plan"] c_check_plan := by
  refine def_mk A sc_check_plan (fun _ => rfl) fun p hp cdv Ar outer s H E hr => ?_
  show HSs _ _ [.dat (eP p)] _
  exact hs_if0 (b := false) (et_nt (et_val (ev_call h_is_plan (eP p) hr (by rfl) (ea_cons (vr 0) ea_nil) trivial)) (by show (!isPlanD (eP p)) = false; rw [isPlan_ok hp]; rfl)) (fun z => nomatch z) fun _ => hs_nil rfl

abbrev s_subsets_of : Stmt := topS 28
abbrev n_subsets_of : List Str := ["many", "rows", "one", "row"]
theorem sc_subsets_of : FnScope n_subsets_of ["many"] (defScope s_subsets_of) := ⟨rfl, rfl, rfl, by decide +kernel, rfl, by decide +kernel, by decide +kernel⟩
theorem d_subsets_of {f fd} (A : DefAt K mg "subsets_of" s_subsets_of ["many"] f fd) (B : Bt mg) : Def P w K mg base 1 "subsets_of" ["many"] c_subsets_of := by
  refine def_mk A sc_subsets_of (fun _ => rfl) fun (n : Nat) (hn : n ≤ 8) cdv Ar outer s H E hr => ?_
  show HSs _ _ [.dat (.int n), .un, .un, .un] _
  refine hs_set (i := 1) (d := eLT [[]]) sc_subsets_of.nd rfl (Or.inl rfl) rfl (ev_lst (ds := [.tuple []]) (ea_cons (ev_tup (ds := []) ea_nil) ea_nil)) ?_
  refine hs_forD (xs := rangeD 0 n) (enc := PyData.int) (fun i => [.dat (.int n), .dat (eLT (subs i)), .un, .un]) PassesOwn.never rfl (ei_eq (ei_range1 (n := (n : Int)) (by rfl) B.range (vr 0) (by omega) (by omega)) (by simp)) rfl (fun i x hx => ?_) ?_
  · obtain ⟨rfl, hi⟩ := rangeD_get hx
    refine ⟨_, [2], eg_name 2 sc_subsets_of.nd, ?_⟩
    have hl : (subs i).length ≤ 256 := by rw [subs_len]; exact (Nat.pow_le_pow_right (n := 2) (by decide) (show i ≤ 8 by omega))
    refine hs_set (i := 1) (d := eLT (subs (i + 1))) sc_subsets_of.nd rfl (Or.inl rfl) rfl (ev_eq' (ev_catL (vr 1) (ev_lcE0 (enc' := eT) (f := fun (r : List Int) => r ++ [(i : Int)]) (xs := subs i) rfl sc_subsets_of.nd
      (Lc.mk1 (enc := eT) [("row", 3)] (fun r => [.dat (.int n), .dat (eLT (subs i)), .dat (.int (i : Nat)), .dat (eT r)]) (ei_list (vr 1)) (blkOk_by (N := n_subsets_of) (sc := defScope s_subsets_of) (by decide +kernel)) rfl
        (fun x _ s H C cl fp => eg_name 3 sc_subsets_of.nd) (fun _ _ => rfl) (fun _ _ => rfl)
        (fun x _ s H C cl fp => pts_yes)
        (fun r hr _ s H C cl fp => ev_eq' (ev_catT (vr 3) (ev_tup (ea_cons (vr 2) ea_nil)) ?_) ?_))) ?_) ?_) ?_
    · have h1 := mem_subs.mp hr
      have h2 := (sub_of_mem h1.1 ((asc_iff _).mpr (asc_range 0 i)) fun x hx => rangeD_mem.mpr (by have := h1.2 x hx; omega)).length_le
      rw [rangeD_len] at h2
      rw [List.length_map]
      show _ ≤ 4096
      simp only [List.length_cons, List.length_nil]
      omega
    · show _ = eT (r ++ [(i : Int)])
      unfold eT
      rw [List.map_append]; rfl
    · simp only [List.length_map]
      show _ ≤ 4096
      omega
    · rw [← List.map_append]; rfl
    · exact hs_nilW [2] rfl
  · rw [rangeD_len]
    exact hs_ret (vr 1) rfl

abbrev s_do_rest : Stmt := topS 17
abbrev n_do_rest : List Str := ["one", "other", "rest"]
theorem sc_do_rest : FnScope n_do_rest ["one", "other", "rest"] (defScope s_do_rest) := ⟨rfl, rfl, rfl, by decide +kernel, rfl, by decide +kernel, by decide +kernel⟩
theorem d_do_rest {f fd} (A : DefAt K mg "do_rest" s_do_rest ["one", "other", "rest"] f fd) (B : Bt mg) : Def P w K mg base 1 "do_rest" ["one", "other", "rest"] c_do_rest := by
  refine def_mk A sc_do_rest (fun _ => rfl) fun ⟨a, b, r⟩ _ cdv Ar outer s H E hr => ?_
  show HSs _ _ [.dat (eW a), .dat (eW b), .dat (.int r)] _
  exact hs_ret (ev_or (ev_gt (ev_ix (vr 0) ev_int rfl) (ev_add (ev_ix (vr 1) ev_int rfl) (vr 2))) fun _ => ev_one (ev_gt (ev_ix (vr 1) ev_int rfl) (ev_add (ev_ix (vr 0) ev_int rfl) (vr 2)))) rfl

abbrev s_tired : Stmt := topS 21
abbrev n_tired : List Str := ["plan", "wishes", "found", "at", "one", "there", "other"]
theorem sc_tired : FnScope n_tired ["plan", "wishes"] (defScope s_tired) := ⟨rfl, rfl, rfl, by decide +kernel, rfl, by decide +kernel, by decide +kernel⟩
theorem d_tired {f fd} (A : DefAt K mg "tired" s_tired ["plan", "wishes"] f fd) (B : Bt mg) (h_do_rest : Def P w K mg base 1 "do_rest" ["one", "other", "rest"] c_do_rest) : Def P w K mg base 2 "tired" ["plan", "wishes"] c_tired := by
  refine def_mk A sc_tired (fun _ => rfl) fun ⟨p, ws⟩ hp cdv Ar outer s H E hr => ?_
  show HSs _ _ [.dat (eP p), .dat (eLW ws), .un, .un, .un, .un, .un] _
  refine hs_setF (i := 2) sc_tired.nd rfl (Or.inl rfl) rfl (ef_lst ea_nil (fun ds e => by subst e; decide)) fun ds e => ?_
  subst e
  have sz : ws.length ≤ 16 := hp.len
  refine hs_forD (xs := ws.zipIdx) (enc := fun x => .tuple [.int (x.2 : Nat), eW x.1]) (fun i => [.dat (eP p), .dat (eLW ws), .own (((ws.zipIdx.take i).flatMap fun x => (tiredRow p ws x.1 x.2).map fun t => ((x.2 : Int), t)).map eII), .un, .un, .un, .un]) PassesOwn.never rfl (ei_eq (ei_enumL (by rfl) B.enumerate (vr 1)) (enumD_map eW ws)) rfl (fun i x hx => ?_) ?_
  · obtain ⟨hw, hi⟩ := zipIdx_get hx
    obtain ⟨w, i'⟩ := x
    subst hi
    have hlt : i' < ws.length := (List.getElem?_eq_some_iff.mp hw).1
    refine ⟨[.dat (eP p), .dat (eLW ws), .own (((ws.zipIdx.take i').flatMap fun x => (tiredRow p ws x.1 x.2).map fun t => ((x.2 : Int), t)).map eII), .dat (.int (i' : Nat)), .dat (eW w), .un, .un], [3, 4], eg_tup rfl (.cons (eg_name 3 sc_tired.nd) (.cons (eg_name 4 sc_tired.nd) .nil rfl) rfl), ?_⟩
    have pl := tired_pre_len p ws sz i'
    refine hs_forD (xs := rangeD ((i' : Int) + 1) ((ws.length : Int) - ((i' : Int) + 1)).toNat) (enc := PyData.int) (fun j => [.dat (eP p), .dat (eLW ws), .own ((((ws.zipIdx.take i').flatMap fun x => (tiredRow p ws x.1 x.2).map fun t => ((x.2 : Int), t)) ++ (((rangeD ((i' : Int) + 1) ((ws.length : Int) - ((i' : Int) + 1)).toNat).take j).filter fun t => tiredB p w (wAt ws t)).map fun t => ((i' : Int), t)).map eII), .dat (.int (i' : Nat)), .dat (eW w), .un, .un]) PassesOwn.never rfl
      (ei_range2 (by rfl) B.range (ev_add (vr 3) ev_int) (ev_eq' (ev_lenL (by rfl) B.len (vr 1)) (by rw [List.length_map]))) ?_ (fun j t hj => ?_) ?_
    · simp
    · have ht := rangeD_mem.mp (List.mem_of_getElem? hj)
      refine ⟨[.dat (eP p), .dat (eLW ws), .own ((((ws.zipIdx.take i').flatMap fun x => (tiredRow p ws x.1 x.2).map fun t => ((x.2 : Int), t)) ++ (((rangeD ((i' : Int) + 1) ((ws.length : Int) - ((i' : Int) + 1)).toNat).take j).filter fun t => tiredB p w (wAt ws t)).map fun t => ((i' : Int), t)).map eII), .dat (.int (i' : Nat)), .dat (eW w), .dat (.int t), .un], [5], eg_name 5 sc_tired.nd, ?_⟩
      refine hs_set (i := 6) sc_tired.nd rfl (Or.inl rfl) rfl (ev_ixL (vr 1) (vr 5) (at_nat (xs := ws) ⟨0, 0, 0, 0⟩ (by omega) (by omega))) ?_
      have hiw : 0 ≤ w.item ∧ w.item < p.objects.length := hp.it w (List.mem_of_getElem? hw)
      have fl : (((rangeD ((i' : Int) + 1) ((ws.length : Int) - ((i' : Int) + 1)).toNat).take j).filter fun t => tiredB p w (wAt ws t)).length ≤ 16 := by
        refine Nat.le_trans (List.length_filter_le ..) ?_
        rw [List.length_take, rangeD_len]; omega
      refine hs_if (b := tiredB p w (wAt ws t)) (fun r => r = [.dat (eP p), .dat (eLW ws), .own ((((ws.zipIdx.take i').flatMap fun x => (tiredRow p ws x.1 x.2).map fun t => ((x.2 : Int), t)) ++ (((rangeD ((i' : Int) + 1) ((ws.length : Int) - ((i' : Int) + 1)).toNat).take (j + 1)).filter fun t => tiredB p w (wAt ws t)).map fun t => ((i' : Int), t)).map eII), .dat (.int (i' : Nat)), .dat (eW w), .dat (.int t), .dat (eW (wAt ws t))])
        (et_and _ _ (et_eq hr (ev_ix (vr 4) ev_int rfl) (ev_ix (vr 6) ev_int rfl) rfl rfl (eqI _ _)) (fun _ => ew_and1 (et_not (et_val (ev_call h_do_rest (w, wAt ws t, (p.obj w.item).rest) hr (by rfl) (ea_cons (vr 4) (ea_cons (vr 6) (ea_cons (ev_ix (ev_ix (ev_ix (vr 0) ev_int rfl) (ev_ix (vr 4) ev_int rfl) (p.at_obj hiw.1 hiw.2)) ev_int rfl) ea_nil))) trivial)))) rfl)
        (fun hb => ?_) (fun hb => ?_) fun r hr' => ?_
      · refine hs_appendN (i := 2) rfl (Or.inl rfl) rfl (ev_tup (ea_cons (vr 3) (ea_cons (vr 5) ea_nil))) ?_ fun d hd => hs_nil ?_
        · rw [List.length_map, List.length_append, List.length_map]
          show _ ≤ 4096
          omega
        · subst hd
          rw [filter_step hj, if_pos hb, ← List.append_assoc, List.map_append (l₂ := [_])]
          rfl
      · refine hs_nil ?_
        rw [filter_step hj, if_neg (by rw [hb]; exact Bool.false_ne_true), List.append_nil]
        rfl
      · subst hr'
        exact hs_nilW [5, 6] rfl
    · refine hs_nilW [3, 4] ?_
      rw [flatMap_step hx, List.take_length]
      rfl
  · rw [List.take_length]
    exact hs_freeze 2 rfl (hs_ret (vr 2) rfl)

abbrev s_weeks_of : Stmt := topS 18
abbrev n_weeks_of : List Str := ["wishes", "item", "wish"]
theorem sc_weeks_of : FnScope n_weeks_of ["wishes", "item"] (defScope s_weeks_of) := ⟨rfl, rfl, rfl, by decide +kernel, rfl, by decide +kernel, by decide +kernel⟩
theorem d_weeks_of {f fd} (A : DefAt K mg "weeks_of" s_weeks_of ["wishes", "item"] f fd) (B : Bt mg) : Def P w K mg base 1 "weeks_of" ["wishes", "item"] c_weeks_of := by
  refine def_mk A sc_weeks_of (fun _ => rfl) fun ⟨ws, item⟩ _ cdv Ar outer s H E hr => ?_
  show HSs _ _ [.dat (eLW ws), .dat (.int item), .un] _
  exact hs_ret (ev_sum rfl (by rfl) B.sum (ev_lcE (enc' := PyData.int) (f := fun (w : Wish) => w.last - w.first + 1) (g := fun w => decide (w.item = item)) rfl sc_weeks_of.nd
    (Lc.mk1 [("wish", 2)] (fun w => [.dat (eLW ws), .dat (.int item), .dat (eW w)]) (ei_list (vr 0)) (blkOk_by (N := n_weeks_of) (sc := defScope s_weeks_of) (by decide +kernel)) rfl
      (fun w _ s H C cl fp => eg_name 2 sc_weeks_of.nd) (fun _ _ => rfl) (fun _ _ => rfl)
      (fun w _ s H C cl fp => pts_one (et_eq hr (ev_ix (vr 2) ev_int rfl) (vr 1) rfl rfl (eqI _ _)))
      (fun w _ _ s H C cl fp => ev_add (ev_sub (ev_ix (vr 2) ev_int rfl) (ev_ix (vr 2) ev_int rfl)) ev_int)))) rfl

abbrev s_bleached : Stmt := topS 22
abbrev n_bleached : List Str := ["plan", "wishes", "item"]
theorem sc_bleached : FnScope n_bleached ["plan", "wishes"] (defScope s_bleached) := ⟨rfl, rfl, rfl, by decide +kernel, rfl, by decide +kernel, by decide +kernel⟩
theorem d_bleached {f fd} (A : DefAt K mg "bleached" s_bleached ["plan", "wishes"] f fd) (B : Bt mg) (h_weeks_of : Def P w K mg base 1 "weeks_of" ["wishes", "item"] c_weeks_of) : Def P w K mg base 2 "bleached" ["plan", "wishes"] c_bleached := by
  refine def_mk A sc_bleached (fun _ => rfl) fun ⟨p, ws⟩ hp cdv Ar outer s H E hr => ?_
  show HSs _ _ [.dat (eP p), .dat (eLW ws), .un] _
  have h4 : p.objects.length ≤ 4 := hp.o4
  have eL : ∀ n : Nat, ((n : Int)).toNat = n := fun n => by simp
  refine hs_ret (ev_lcE (enc' := PyData.int) (f := fun (i : Int) => i) (g := fun i => decide ((p.obj i).light < weeksOf ws i)) (xs := rangeD 0 p.objects.length) (enc := PyData.int) rfl sc_bleached.nd
    (Lc.mk1 [("item", 2)] (fun i => [.dat (eP p), .dat (eLW ws), .dat (.int i)]) (ei_eq (ei_range1 (n := (p.objects.length : Int)) (by rfl) B.range (ev_eq' (ev_lenT (by rfl) B.len (ev_ix (vr 0) ev_int rfl)) (by rw [List.length_map]))) (by rw [eL])) (blkOk_by (N := n_bleached) (sc := defScope s_bleached) (by decide +kernel)) rfl
      (fun i _ s H C cl fp => eg_name 2 sc_bleached.nd) (fun _ _ => rfl) (fun _ _ => rfl)
      (fun i hi s H C cl fp => pts_one (et_gt (ev_call h_weeks_of (ws, i) hr (by rfl) (ea_cons (vr 1) (ea_cons (vr 2) ea_nil)) trivial) (ev_ix (ev_ix (ev_ix (vr 0) ev_int rfl) (vr 2) (p.at_obj (rangeD_mem.mp hi).1 (by have := (rangeD_mem.mp hi).2; omega))) ev_int rfl)))
      (fun i _ _ s H C cl fp => vr 2))) ?_
  show PyData.list _ = _
  rw [List.map_id']
  rfl

abbrev s_value_at : Stmt := topS 19
abbrev n_value_at : List Str := ["plan", "wishes", "house", "week", "wish", "there"]
theorem sc_value_at : FnScope n_value_at ["plan", "wishes", "house", "week"] (defScope s_value_at) := ⟨rfl, rfl, rfl, by decide +kernel, rfl, by decide +kernel, by decide +kernel⟩
theorem d_value_at {f fd} (A : DefAt K mg "value_at" s_value_at ["plan", "wishes", "house", "week"] f fd) (B : Bt mg) : Def P w K mg base 1 "value_at" ["plan", "wishes", "house", "week"] c_value_at := by
  refine def_mk A sc_value_at (fun _ => rfl) fun ⟨p, ws, h, k⟩ hp cdv Ar outer s H E hr => ?_
  show HSs _ _ [.dat (eP p), .dat (eLW ws), .dat (.int h), .dat (.int k), .un, .un] _
  refine hs_setLc (i := 5) rfl sc_value_at.nd rfl rfl rfl (sw_true rfl rfl rfl (by decide +kernel))
    (Lc.mk1 (enc := eW) (xs := ws) (f := fun w => eW w) (g := fun w => decide (w.house = h) && (decide (w.first ≤ k) && decide (k ≤ w.last))) [("wish", 4)] (fun w => [.dat (eP p), .dat (eLW ws), .dat (.int h), .dat (.int k), .dat (eW w), .un]) (ei_list (vr 1)) (blkOk_by (N := n_value_at) (sc := defScope s_value_at) (by decide +kernel)) rfl
      (fun w _ s H C cl fp => eg_name 4 sc_value_at.nd) (fun _ _ => rfl) (fun _ _ => rfl)
      (fun w _ s H C cl fp => pts_one (PW.pt (ew_and (et_eq hr (ev_ix (vr 4) ev_int rfl) (vr 2) rfl rfl (eqI _ _)) fun _ => ew_and1 (et_lele (ev_ix (vr 4) ev_int rfl) (vr 3) (ev_ix (vr 4) ev_int rfl)))))
      (fun w _ _ s H C cl fp => vr 4)) fun ds es e he => ?_
  have e2 : es = (thereIn ws h k).map eW := by rw [← lc_end es ⟨ds, e, he⟩]; rfl
  subst e2
  show HSs _ _ [.dat (eP p), .dat (eLW ws), .dat (.int h), .dat (.int k), .un, .dat (eLW (thereIn ws h k))] _
  exact hs_ret (ev_sum rfl (by rfl) B.sum (ev_lcE0 (enc' := PyData.int) (f := fun (w : Wish) => (p.obj w.item).value) rfl sc_value_at.nd
    (Lc.mk1 [("wish", 4)] (fun w => [.dat (eP p), .dat (eLW ws), .dat (.int h), .dat (.int k), .dat (eW w), .dat (eLW (thereIn ws h k))]) (ei_list (vr 5)) (blkOk_by (N := n_value_at) (sc := defScope s_value_at) (by decide +kernel)) rfl
      (fun w _ s H C cl fp => eg_name 4 sc_value_at.nd) (fun _ _ => rfl) (fun _ _ => rfl)
      (fun w _ s H C cl fp => pts_yes)
      (fun w hw _ s H C cl fp => ev_ix (ev_ix (ev_ix (vr 0) ev_int rfl) (ev_ix (vr 4) ev_int rfl) (p.at_obj (hp.it w (List.mem_filter.mp hw).1).1 (hp.it w (List.mem_filter.mp hw).1).2)) ev_int rfl)))) rfl

abbrev s_are_good : Stmt := topS 24
abbrev n_are_good : List Str := ["plan", "wishes", "house", "limit", "wish", "weeks", "week"]
theorem sc_are_good : FnScope n_are_good ["plan", "wishes"] (defScope s_are_good) := ⟨rfl, rfl, rfl, by decide +kernel, rfl, by decide +kernel, by decide +kernel⟩
theorem d_are_good {f fd} (A : DefAt K mg "are_good" s_are_good ["plan", "wishes"] f fd) (B : Bt mg) (h_tired : Def P w K mg base 2 "tired" ["plan", "wishes"] c_tired) (h_bleached : Def P w K mg base 2 "bleached" ["plan", "wishes"] c_bleached) (h_value_at : Def P w K mg base 1 "value_at" ["plan", "wishes", "house", "week"] c_value_at) : Def P w K mg base 3 "are_good" ["plan", "wishes"] c_are_good := by
  refine def_mk A sc_are_good (fun _ => rfl) fun ⟨p, ws⟩ ⟨hp, hw⟩ cdv Ar outer s H E hr => ?_
  show HSs _ _ [.dat (eP p), .dat (eLW ws), .un, .un, .un, .un, .un] _
  have ne : ∀ ds : List PyData, (!PyData.eqv (.list ds) (.list [])) = !ds.isEmpty := fun ds => by rw [eqv_lnil]
  refine hs_if0 (b := !(tired p ws).isEmpty || !(bleached p ws).isEmpty) (et_or _ _ (et_ne hr (ev_call h_tired (p, ws) hr (by rfl) (ea_cons (vr 0) (ea_cons (vr 1) ea_nil)) hw) (ev_lst ea_nil) ((en_lst en_II).ok _) rfl (by rw [ne, List.isEmpty_map])) fun _ => ew_or1 (et_ne hr (ev_call h_bleached (p, ws) hr (by rfl) (ea_cons (vr 0) (ea_cons (vr 1) ea_nil)) hp) (ev_lst ea_nil) ((en_lst en_int).ok _) rfl (by rw [ne, List.isEmpty_map]))) (fun h0 => hs_ret ev_bl ?_) fun h0 => ?_
  · show PyData.bool (areGood p ws) = _
    unfold areGood
    rw [h0]; rfl
  · refine hs_for (E := Eq (p.houses.zipIdx.map fun x => PyData.tuple [.int (x.2 : Nat), .int x.1])) (fun _ i r => r = [.dat (eP p), .dat (eLW ws), .un, .un, .un, .un, .un] ∧ ((p.houses.zipIdx.take i).all fun x => !houseBad p ws x.1 x.2) = true) (fun _ => False) PassesOwn.never rfl (ei_eq (ei_enumT (by rfl) B.enumerate (ev_ix (vr 0) ev_int rfl)) (enumD_map PyData.int p.houses)) (fun _ _ => ⟨rfl, rfl⟩) (fun ds i d ρ1 hE hd ⟨hr1, hiv⟩ => ?_) (fun ds ρ1 hE ⟨hr1, hiv⟩ => ?_) (fun _ z => z.elim)
    · subst hE; subst hr1
      obtain ⟨x, hx, rfl⟩ := map_get hd
      obtain ⟨hw', hi⟩ := zipIdx_get hx
      obtain ⟨l, i'⟩ := x
      subst hi
      refine ⟨[.dat (eP p), .dat (eLW ws), .dat (.int (i' : Nat)), .dat (.int l), .un, .un, .un], [2, 3], eg_tup rfl (.cons (eg_name 2 sc_are_good.nd) (.cons (eg_name 3 sc_are_good.nd) .nil rfl) rfl), ?_⟩
      refine hs_setLc (i := 5) rfl sc_are_good.nd rfl rfl rfl (sw_true rfl rfl rfl (by decide +kernel))
        (Lc.mk1 (enc := eW) (xs := ws) (f := fun w => PyData.int w.first) (g := fun w => decide (w.house = (i' : Int))) [("wish", 4)] (fun w => [.dat (eP p), .dat (eLW ws), .dat (.int (i' : Nat)), .dat (.int l), .dat (eW w), .un, .un]) (ei_list (vr 1)) (blkOk_by (N := n_are_good) (sc := defScope s_are_good) (by decide +kernel)) rfl
          (fun w _ s H C cl fp => eg_name 4 sc_are_good.nd) (fun _ _ => rfl) (fun _ _ => rfl)
          (fun w _ s H C cl fp => pts_one (et_eq hr (ev_ix (vr 4) ev_int rfl) (vr 2) rfl rfl (eqI _ _)))
          (fun w _ _ s H C cl fp => ev_ix (vr 4) ev_int rfl)) fun ds es e he => ?_
      have e2 : es = ((ws.filter fun w => decide (w.house = (i' : Int))).map fun w => w.first).map PyData.int := lc_is e he
      subst e2
      generalize hks : ((ws.filter fun w => decide (w.house = (i' : Int))).map fun w => w.first) = ks
      show HSs _ _ [.dat (eP p), .dat (eLW ws), .dat (.int (i' : Nat)), .dat (.int l), .un, .dat (.list (ks.map PyData.int)), .un] _
      refine hs_if0 (b := houseBad p ws l i') (et_eq' (et_val (ev_any rfl (by rfl) B.any (ev_lcE0 (xs := ks) (enc := PyData.int) (enc' := PyData.bool) (f := fun k => decide (l < valueAt p ws i' k)) rfl sc_are_good.nd
        (Lc.mk1 [("week", 6)] (fun k => [.dat (eP p), .dat (eLW ws), .dat (.int (i' : Nat)), .dat (.int l), .un, .dat (.list (ks.map PyData.int)), .dat (.int k)]) (ei_list (vr 5)) (blkOk_by (N := n_are_good) (sc := defScope s_are_good) (by decide +kernel)) rfl
          (fun k _ s H C cl fp => eg_name 6 sc_are_good.nd) (fun _ _ => rfl) (fun _ _ => rfl) (fun k _ s H C cl fp => pts_yes)
          (fun k _ _ s H C cl fp => ev_gt (ev_call h_value_at (p, ws, (i' : Int), k) hr (by rfl) (ea_cons (vr 0) (ea_cons (vr 1) (ea_cons (vr 2) (ea_cons (vr 6) ea_nil)))) hw) (vr 3)))))) (by unfold houseBad; rw [hks, List.any_map, Function.id_comp])) (fun hb => hs_ret ev_bl ?_) (fun hb => hs_nilW [2, 3, 5] ?_)
      · show PyData.bool (areGood p ws) = _
        have hm : (l, i') ∈ p.houses.zipIdx := List.mem_of_getElem? hx
        have ha : (p.houses.zipIdx.all fun x => !houseBad p ws x.1 x.2) = false := by
          rw [List.all_eq_false]
          exact ⟨(l, i'), hm, by rw [hb]; decide⟩
        unfold areGood
        rw [ha, Bool.and_false]
      · refine ⟨rfl, ?_⟩
        rw [take_succ hx, List.all_append, hiv]
        simp [hb]
    · subst hE; subst hr1
      rw [List.length_map, List.take_length] at hiv
      refine hs_ret ev_bl ?_
      show PyData.bool (areGood p ws) = _
      unfold areGood
      rw [hiv, h0]; rfl

abbrev s_named : Stmt := topS 20
abbrev n_named : List Str := ["plan", "some", "number"]
theorem sc_named : FnScope n_named ["plan", "some"] (defScope s_named) := ⟨rfl, rfl, rfl, by decide +kernel, rfl, by decide +kernel, by decide +kernel⟩
theorem d_named {f fd} (A : DefAt K mg "named" s_named ["plan", "some"] f fd) (B : Bt mg) : Def P w K mg base 1 "named" ["plan", "some"] c_named := by
  refine def_mk A sc_named (fun _ => rfl) fun ⟨p, ns⟩ hp cdv Ar outer s H E hr => ?_
  show HSs _ _ [.dat (eP p), .dat (eT ns), .un] _
  exact hs_ret (ev_lcE0 (enc' := eW) (f := fun (x : Int) => p.wish x) rfl sc_named.nd
    (Lc.mk1 [("number", 2)] (fun x => [.dat (eP p), .dat (eT ns), .dat (.int x)]) (ei_tup (vr 1)) (blkOk_by (N := n_named) (sc := defScope s_named) (by decide +kernel)) rfl
      (fun x _ s H C cl fp => eg_name 2 sc_named.nd) (fun _ _ => rfl) (fun _ _ => rfl)
      (fun x _ s H C cl fp => pts_yes)
      (fun x hx _ s H C cl fp => ev_ix (ev_ix (vr 0) ev_int rfl) (vr 2) (p.at_wish (hp x hx).1 (hp x hx).2)))) rfl

abbrev s_is_clash_of : Stmt := topS 30
abbrev n_is_clash_of : List Str := ["plan", "some", "at", "rows", "row"]
theorem sc_is_clash_of : FnScope n_is_clash_of ["plan", "some"] (defScope s_is_clash_of) := ⟨rfl, rfl, rfl, by decide +kernel, rfl, by decide +kernel, by decide +kernel⟩
theorem d_is_clash_of {f fd} (A : DefAt K mg "is_clash_of" s_is_clash_of ["plan", "some"] f fd) (B : Bt mg) (h_are_good : Def P w K mg base 3 "are_good" ["plan", "wishes"] c_are_good) (h_named : Def P w K mg base 1 "named" ["plan", "some"] c_named) : Def P w K mg base 4 "is_clash_of" ["plan", "some"] c_is_clash_of := by
  refine def_mk A sc_is_clash_of (fun _ => rfl) fun (⟨p, s⟩ : Plan × List Int) ⟨(hp : p.Ok), (hs : SomeOk p s)⟩ cdv Ar outer sh H E hr => ?_
  show HSs _ _ [.dat (eP p), .dat (eT s), .un, .un, .un] _
  have hr8 := hs.len
  have hw8 := hp.w8
  have callA : ∀ {u : List Int}, SomeOk p u → c_are_good.res (p, named p u) = Eq (.bool (good p u)) := fun {u} hu => by show Eq (PyData.bool (areGood p (named p u))) = _; rw [good_eq hp hu]
  refine hs_if0 (b := good p s) (et_val (ev_call h_are_good (p, named p s) hr (by rfl) (ea_cons (vr 0) (ea_cons (ev_call h_named (p, s) hr (by rfl) (ea_cons (vr 0) (ea_cons (vr 1) ea_nil)) hs.rng) ea_nil)) ⟨hp, hs.wsok hp⟩ (callA hs))) (fun hg => hs_ret ev_bl ?_) fun hg => ?_
  · show PyData.bool (isClash p s) = _
    unfold isClash; rw [hg]; rfl
  refine hs_setLc (i := 3) rfl sc_is_clash_of.nd rfl rfl rfl (sw_true rfl rfl rfl (by decide +kernel))
    (Lc.mk1 (enc := PyData.int) (xs := rangeD 0 s.length) (f := fun i => eT (less s i.toNat)) (g := fun _ => true) [("at", 2)] (fun i => [.dat (eP p), .dat (eT s), .dat (.int i), .un, .un]) (ei_eq (ei_range1 (n := (s.length : Int)) (by rfl) B.range (ev_eq' (ev_lenT (by rfl) B.len (vr 1)) (by rw [List.length_map])) (by omega) (by omega)) (by simp)) (blkOk_by (N := n_is_clash_of) (sc := defScope s_is_clash_of) (by decide +kernel)) rfl
      (fun x _ s H C cl fp => eg_name 2 sc_is_clash_of.nd) (fun _ _ => rfl) (fun _ _ => rfl)
      (fun _ _ s H C cl fp => pts_yes)
      (fun x hx _ s' H C cl fp => ev_eq' (ev_catT (ev_slT (vr 1) eo_none (eo_some (vr 2))) (ev_slT (vr 1) (eo_some (ev_add (vr 2) ev_int)) eo_none) ?_) ?_)) fun ds es e he => ?_
  · have hx' := rangeD_mem.mp hx
    obtain ⟨j, rfl⟩ : ∃ j : Nat, x = j := ⟨x.toNat, by omega⟩
    rw [← List.length_append, cut_less, List.length_map]
    have := (less_sub s j).length_le
    show _ ≤ 4096
    omega
  · have hx' := rangeD_mem.mp hx
    obtain ⟨j, rfl⟩ : ∃ j : Nat, x = j := ⟨x.toNat, by omega⟩
    rw [cut_less, Int.toNat_natCast]
  have e2 : es = eLTs ((rangeD 0 s.length).map fun i => less s i.toNat) := lc_is0 e he
  subst e2
  have el : (rangeD 0 s.length).map (fun i => less s i.toNat) = (List.range s.length).map (less s) := by
    unfold rangeD
    rw [List.map_map]
    exact List.map_congr_left fun i _ => by simp [Function.comp]
  have hm : ∀ r ∈ (rangeD 0 s.length).map (fun i => less s i.toNat), SomeOk p r := fun r hr => by
    obtain ⟨i, _, rfl⟩ := List.mem_map.mp hr
    exact hs.sub (less_sub s _)
  generalize hR : (rangeD 0 s.length).map (fun i => less s i.toNat) = R at hm el
  show HSs _ _ [.dat (eP p), .dat (eT s), .un, .dat (eLT R), .un] _
  refine hs_ret (ev_all rfl (by rfl) B.all (ev_lcE0 (enc' := PyData.bool) (f := good p) (xs := R) rfl sc_is_clash_of.nd
    (Lc.mk1 (enc := eT) [("row", 4)] (fun r => [.dat (eP p), .dat (eT s), .un, .dat (eLT R), .dat (eT r)]) (ei_list (vr 3)) (blkOk_by (N := n_is_clash_of) (sc := defScope s_is_clash_of) (by decide +kernel)) rfl
      (fun x _ s H C cl fp => eg_name 4 sc_is_clash_of.nd) (fun _ _ => rfl) (fun _ _ => rfl)
      (fun _ _ s H C cl fp => pts_yes)
      (fun r hr' _ s' H C cl fp => ev_call h_are_good (p, named p r) hr (by rfl) (ea_cons (vr 0) (ea_cons (ev_call h_named (p, r) hr (by rfl) (ea_cons (vr 0) (ea_cons (vr 4) ea_nil)) (hm r hr').rng) ea_nil)) ⟨hp, (hm r hr').wsok hp⟩ (callA (hm r hr')))))) ?_
  show PyData.bool (isClash p s) = _
  unfold isClash
  rw [hg, el, List.map_map, List.all_map]
  rfl

abbrev s_clashes_of : Stmt := topS 31
abbrev n_clashes_of : List Str := ["plan", "row"]
theorem sc_clashes_of : FnScope n_clashes_of ["plan"] (defScope s_clashes_of) := ⟨rfl, rfl, rfl, by decide +kernel, rfl, by decide +kernel, by decide +kernel⟩
theorem d_clashes_of {f fd} (A : DefAt K mg "clashes_of" s_clashes_of ["plan"] f fd) (B : Bt mg) (h_subsets_of : Def P w K mg base 1 "subsets_of" ["many"] c_subsets_of) (h_is_clash_of : Def P w K mg base 4 "is_clash_of" ["plan", "some"] c_is_clash_of) : Def P w K mg base 5 "clashes_of" ["plan"] c_clashes_of := by
  refine def_mk A sc_clashes_of (fun _ => rfl) fun (p : Plan) (hp : p.Ok) cdv Ar outer s H E hr => ?_
  show HSs _ _ [.dat (eP p), .un] _
  refine hs_ret (ev_sortedL hr (by rfl) B.sorted (ev_lcE (enc' := eT) (f := fun (r : List Int) => r) (g := isClash p) (xs := subs p.wishes.length) rfl sc_clashes_of.nd
    (Lc.mk1 (enc := eT) [("row", 1)] (fun r => [.dat (eP p), .dat (eT r)]) (ei_list (ev_call h_subsets_of p.wishes.length hr (by rfl) (ea_cons (ev_eq' (ev_lenT (by rfl) B.len (ev_ix (vr 0) ev_int rfl)) (by rw [List.length_map])) ea_nil) hp.w8)) (blkOk_by (N := n_clashes_of) (sc := defScope s_clashes_of) (by decide +kernel)) rfl
      (fun x _ s H C cl fp => eg_name 1 sc_clashes_of.nd) (fun _ _ => rfl) (fun _ _ => rfl)
      (fun r hm s H C cl fp => pts_one (et_val (ev_call h_is_clash_of (p, r) hr (by rfl) (ea_cons (vr 0) (ea_cons (vr 1) ea_nil)) ⟨hp, subs_some.mp hm⟩)))
      (fun r _ _ s H C cl fp => vr 1))) (by rw [List.map_id']; exact clashes_srt hp)) ?_
  rw [List.map_id']
  show eLT (clashesOf p) = _
  unfold clashesOf
  exact congrArg PyData.list (sort_rows _).symm

abbrev s_clashes : Stmt := topS 32
abbrev n_clashes : List Str := ["plan"]
theorem sc_clashes : FnScope n_clashes ["plan"] (defScope s_clashes) := ⟨rfl, rfl, rfl, by decide +kernel, rfl, by decide +kernel, by decide +kernel⟩
theorem d_clashes {f fd} (A : DefAt K mg "clashes" s_clashes ["plan"] f fd) (B : Bt mg) (h_check_plan : Def P w K mg base 4 "check_plan" ["plan"] c_check_plan) (h_clashes_of : Def P w K mg base 5 "clashes_of" ["plan"] c_clashes_of) : Def P w K mg base 6 "clashes" ["plan"] c_clashes := by
  refine def_mk A sc_clashes (fun _ => rfl) fun (p : Plan) (hp : p.Ok) cdv Ar outer s H E hr => ?_
  show HSs _ _ [.dat (eP p)] _
  refine hs_dropN (ev_call h_check_plan p hr (by rfl) (ea_cons (vr 0) ea_nil) hp) ?_
  exact hs_ret (ev_tupleL (by rfl) B.tuple (ev_call h_clashes_of p hr (by rfl) (ea_cons (vr 0) ea_nil) hp)) rfl

abbrev s_good_ones : Stmt := topS 29
abbrev n_good_ones : List Str := ["plan", "row"]
theorem sc_good_ones : FnScope n_good_ones ["plan"] (defScope s_good_ones) := ⟨rfl, rfl, rfl, by decide +kernel, rfl, by decide +kernel, by decide +kernel⟩
theorem d_good_ones {f fd} (A : DefAt K mg "good_ones" s_good_ones ["plan"] f fd) (B : Bt mg) (h_subsets_of : Def P w K mg base 1 "subsets_of" ["many"] c_subsets_of) (h_are_good : Def P w K mg base 3 "are_good" ["plan", "wishes"] c_are_good) (h_named : Def P w K mg base 1 "named" ["plan", "some"] c_named) : Def P w K mg base 4 "good_ones" ["plan"] c_good_ones := by
  refine def_mk A sc_good_ones (fun _ => rfl) fun (p : Plan) (hp : p.Ok) cdv Ar outer s H E hr => ?_
  show HSs _ _ [.dat (eP p), .un] _
  refine hs_ret (ev_lcE (enc' := eT) (f := fun (r : List Int) => r) (g := good p) (xs := subs p.wishes.length) rfl sc_good_ones.nd
    (Lc.mk1 (enc := eT) [("row", 1)] (fun r => [.dat (eP p), .dat (eT r)]) (ei_list (ev_call h_subsets_of p.wishes.length hr (by rfl) (ea_cons (ev_eq' (ev_lenT (by rfl) B.len (ev_ix (vr 0) ev_int rfl)) (by rw [List.length_map])) ea_nil) hp.w8)) (blkOk_by (N := n_good_ones) (sc := defScope s_good_ones) (by decide +kernel)) rfl
      (fun x _ s H C cl fp => eg_name 1 sc_good_ones.nd) (fun _ _ => rfl) (fun _ _ => rfl)
      (fun r hm s H C cl fp => pts_one (et_val (ev_call h_are_good (p, named p r) hr (by rfl) (ea_cons (vr 0) (ea_cons (ev_call h_named (p, r) hr (by rfl) (ea_cons (vr 0) (ea_cons (vr 1) ea_nil)) (subs_some.mp hm).rng) ea_nil)) ⟨hp, (subs_some.mp hm).wsok hp⟩ (by show Eq (PyData.bool (areGood p (named p r))) = _; rw [good_eq hp (subs_some.mp hm)]))))
      (fun r _ _ s H C cl fp => vr 1))) ?_
  rw [List.map_id']
  rfl

abbrev s_largest : Stmt := topS 33
abbrev n_largest : List Str := ["plan", "rows", "row", "most"]
theorem sc_largest : FnScope n_largest ["plan"] (defScope s_largest) := ⟨rfl, rfl, rfl, by decide +kernel, rfl, by decide +kernel, by decide +kernel⟩
theorem d_largest {f fd} (A : DefAt K mg "largest" s_largest ["plan"] f fd) (B : Bt mg) (h_good_ones : Def P w K mg base 4 "good_ones" ["plan"] c_good_ones) : Def P w K mg base 5 "largest" ["plan"] c_largest := by
  refine def_mk A sc_largest (fun _ => rfl) fun (p : Plan) (hp : p.Ok) cdv Ar outer s H E hr => ?_
  show HSs _ _ [.dat (eP p), .un, .un, .un] _
  refine hs_set (i := 1) sc_largest.nd rfl (Or.inl rfl) rfl (ev_call h_good_ones p hr (by rfl) (ea_cons (vr 0) ea_nil) hp) ?_
  show HSs _ _ [.dat (eP p), .dat (eLT (goodOnes p)), .un, .un] _
  obtain ⟨r0, hr0, e0⟩ := maxL_at (List.ne_nil_of_mem (nil_good hp))
  refine hs_set (i := 3) (d := .int (mostGranted p : Nat)) sc_largest.nd rfl (Or.inr rfl) rfl (ev_maxL (ns := (goodOnes p).map fun r => (r.length : Int)) rfl (by rfl) B.max (ev_lcE0 (enc' := PyData.int) (f := fun (r : List Int) => (r.length : Int)) (xs := goodOnes p) rfl sc_largest.nd
    (Lc.mk1 (enc := eT) [("row", 2)] (fun r => [.dat (eP p), .dat (eLT (goodOnes p)), .dat (eT r), .un]) (ei_list (vr 1)) (blkOk_by (N := n_largest) (sc := defScope s_largest) (by decide +kernel)) rfl
      (fun x _ s H C cl fp => eg_name 2 sc_largest.nd) (fun _ _ => rfl) (fun _ _ => rfl)
      (fun _ _ s H C cl fp => pts_yes)
      (fun r _ _ s' H C cl fp => ev_eq' (ev_lenT (by rfl) B.len (vr 2)) (by rw [List.length_map])))) (List.mem_map.mpr ⟨r0, hr0, by rw [e0]; rfl⟩) (fun y hy => ?_)) ?_
  · obtain ⟨r, hr, rfl⟩ := List.mem_map.mp hy
    exact Int.ofNat_le.mpr (le_maxL hr)
  show HSs _ _ [.dat (eP p), .dat (eLT (goodOnes p)), .un, .dat (.int (mostGranted p : Nat))] _
  refine hs_ret (ev_sortedL hr (by rfl) B.sorted (ev_lcE (enc' := eT) (f := fun (r : List Int) => r) (g := fun r => decide (r.length = maxL (goodOnes p))) (xs := goodOnes p) rfl sc_largest.nd
    (Lc.mk1 (enc := eT) [("row", 2)] (fun r => [.dat (eP p), .dat (eLT (goodOnes p)), .dat (eT r), .dat (.int (mostGranted p : Nat))]) (ei_list (vr 1)) (blkOk_by (N := n_largest) (sc := defScope s_largest) (by decide +kernel)) rfl
      (fun x _ s H C cl fp => eg_name 2 sc_largest.nd) (fun _ _ => rfl) (fun _ _ => rfl)
      (fun r _ s H C cl fp => pts_one (et_eq hr (ev_eq' (ev_lenT (by rfl) B.len (vr 2)) (by rw [List.length_map])) (vr 3) (en_int.ok _) (en_int.ok _) (by rw [eqI, Bool.eq_iff_iff, decide_eq_true_iff, decide_eq_true_iff]; unfold mostGranted; omega)))
      (fun r _ _ s' H C cl fp => vr 2))) (by rw [List.map_id']; exact largest_srt hp)) ?_
  rw [List.map_id']
  show eLT (largest p) = _
  unfold largest
  exact congrArg PyData.list (sort_rows _).symm

abbrev s_most_granted : Stmt := topS 34
abbrev n_most_granted : List Str := ["plan"]
theorem sc_most_granted : FnScope n_most_granted ["plan"] (defScope s_most_granted) := ⟨rfl, rfl, rfl, by decide +kernel, rfl, by decide +kernel, by decide +kernel⟩
theorem d_most_granted {f fd} (A : DefAt K mg "most_granted" s_most_granted ["plan"] f fd) (B : Bt mg) (h_check_plan : Def P w K mg base 4 "check_plan" ["plan"] c_check_plan) (h_largest : Def P w K mg base 5 "largest" ["plan"] c_largest) : Def P w K mg base 6 "most_granted" ["plan"] c_most_granted := by
  refine def_mk A sc_most_granted (fun _ => rfl) fun (p : Plan) (hp : p.Ok) cdv Ar outer s H E hr => ?_
  show HSs _ _ [.dat (eP p)] _
  refine hs_dropN (ev_call h_check_plan p hr (by rfl) (ea_cons (vr 0) ea_nil) hp) ?_
  refine hs_ret (ev_eq' (ev_lenT (by rfl) B.len (ev_ixL (ev_call h_largest p hr (by rfl) (ea_cons (vr 0) ea_nil) hp) ev_int (best_at hp))) ?_) rfl
  rw [List.length_map, best_len hp]

abbrev s_most_apart : Stmt := topS 38
abbrev n_most_apart : List Str := ["rows", "first", "rest", "row", "one", "free"]
theorem sc_most_apart : FnScope n_most_apart ["rows"] (defScope s_most_apart) := ⟨rfl, rfl, rfl, by decide +kernel, rfl, by decide +kernel, by decide +kernel⟩
theorem d_most_apart {f fd} (A : DefAt K mg "most_apart" s_most_apart ["rows"] f fd) (B : Bt mg) : Def P w K mg base 129 "most_apart" ["rows"] (c_most_apart 128) := by
  have h : ∀ n, Def P w K mg base (n + 1) "most_apart" ["rows"] (c_most_apart n) := by
    intro n
    induction n with
    | zero =>
      refine def_mk A sc_most_apart (fun _ => rfl) fun (L : List (List Int)) ⟨h0, _⟩ cdv Ar outer s H E hr => ?_
      have e : L = [] := List.eq_nil_of_length_eq_zero (Nat.le_zero.mp h0)
      subst e
      show HSs _ _ [.dat (eLT []), .un, .un, .un, .un, .un] _
      exact hs_if0 (b := true) (et_eq hr (vr 0) (ev_lst ea_nil) rfl rfl rfl) (fun _ => hs_ret ev_int rfl) (fun z => nomatch z)
    | succ n ih =>
      refine def_mk A sc_most_apart (fun _ => rfl) fun (L : List (List Int)) ⟨h0, h1⟩ cdv Ar outer s H E hr => ?_
      cases L with
      | nil =>
        show HSs _ _ [.dat (eLT []), .un, .un, .un, .un, .un] _
        exact hs_if0 (b := true) (et_eq hr (vr 0) (ev_lst ea_nil) rfl rfl rfl) (fun _ => hs_ret ev_int rfl) (fun z => nomatch z)
      | cons a l =>
        have h0' : l.length ≤ n := by have := h0; rw [List.length_cons] at this; omega
        have h1' : l.length ≤ 4096 := by have := h1; rw [List.length_cons] at this; omega
        have hf : (free a l).length ≤ l.length := List.length_filter_le ..
        show HSs _ _ [.dat (eLT (a :: l)), .un, .un, .un, .un, .un] _
        refine hs_if0 (b := false) (et_eq' (et_eq hr (vr 0) (ev_lst ea_nil) ((en_lst en_T).ok (a :: l)) rfl rfl) (by rw [eqv_lnil]; rfl)) (fun z => nomatch z) fun _ => ?_
        refine hs_asg (js := [1, 2]) (ev_tup (ea_cons (ev_ixL (vr 0) ev_int (atI_nat (j := 0) rfl)) (ea_cons (ev_eq' (db := eLT l) (ev_slL (vr 0) (eo_some ev_int) eo_none) (congrArg PyData.list (cutD_1 _))) ea_nil))) (eg_tup rfl (.cons (eg_name 1 sc_most_apart.nd) (.cons (eg_name 2 sc_most_apart.nd) .nil rfl) rfl)) ?_
        show HSs _ _ [.dat (eLT (a :: l)), .dat (eT a), .dat (eLT l), .un, .un, .un] _
        refine hs_setLc (i := 5) rfl sc_most_apart.nd rfl rfl rfl (sw_true rfl rfl rfl (by decide +kernel))
          (Lc.mk1 (enc := eT) (xs := l) (f := fun r => eT r) (g := fun r => !r.any fun x => decide (x ∈ a)) [("row", 3)] (fun r => [.dat (eLT (a :: l)), .dat (eT a), .dat (eLT l), .dat (eT r), .un, .un]) (ei_list (vr 2)) (blkOk_by (N := n_most_apart) (sc := defScope s_most_apart) (by decide +kernel)) rfl
            (fun x _ s H C cl fp => eg_name 3 sc_most_apart.nd) (fun _ _ => rfl) (fun _ _ => rfl)
            (fun r _ s' H' C cl fp => pts_one (et_eq' (et_not (et_val (ev_any rfl (by rfl) B.any (ev_lcE0 (enc' := PyData.bool) (f := fun x => decide (x ∈ a)) (xs := r) rfl sc_most_apart.nd
              (Lc.mk1 (enc := PyData.int) [("one", 4)] (fun x => [.dat (eLT (a :: l)), .dat (eT a), .dat (eLT l), .dat (eT r), .dat (.int x), .un]) (ei_tup (vr 3)) (blkOk_in (N := n_most_apart) (sc0 := defScope s_most_apart) rfl (by decide +kernel)) rfl
                (fun x _ s H C cl fp => eg_name 4 sc_most_apart.nd) (fun _ _ => rfl) (fun _ _ => rfl)
                (fun _ _ s H C cl fp => pts_yes)
                (fun x _ _ s' H C cl fp => ev_inT hr (vr 4) (vr 1) (en_int.ok _) (en_T.ok _) (inD_map en_int _ _))))))) (by rw [List.any_map]; rfl)))
            (fun r _ _ s' H C cl fp => vr 3)) fun ds es e he => ?_
        have e2 : es = eLTs (free a l) := (lc_end es ⟨ds, e, he⟩).symm
        subst e2
        show HSs _ _ [.dat (eLT (a :: l)), .dat (eT a), .dat (eLT l), .un, .un, .dat (eLT (free a l))] _
        refine hs_ret (ev_max2 rfl (by rfl) B.max (ev_call ih l hr (by rfl) (ea_cons (vr 2) ea_nil) ⟨h0', h1'⟩ (hkn := Nat.le_refl _)) (ev_add ev_int (ev_call ih (free a l) hr (by rfl) (ea_cons (vr 5) ea_nil) ⟨by omega, by omega⟩ (hkn := Nat.le_refl _)))) ?_
        show PyData.int (mostApart (a :: l) : Nat) = _
        rw [mostApart_cons]
        split <;> congr 1 <;> omega
  exact h 128

abbrev s_apart : Stmt := topS 39
abbrev n_apart : List Str := ["plan"]
theorem sc_apart : FnScope n_apart ["plan"] (defScope s_apart) := ⟨rfl, rfl, rfl, by decide +kernel, rfl, by decide +kernel, by decide +kernel⟩
theorem d_apart {f fd} (A : DefAt K mg "apart" s_apart ["plan"] f fd) (B : Bt mg) (h_check_plan : Def P w K mg base 4 "check_plan" ["plan"] c_check_plan) (h_clashes_of : Def P w K mg base 5 "clashes_of" ["plan"] c_clashes_of) (h_most_apart : Def P w K mg base 129 "most_apart" ["rows"] (c_most_apart 128)) : Def P w K mg base 130 "apart" ["plan"] c_apart := by
  refine def_mk A sc_apart (fun _ => rfl) fun (p : Plan) ⟨(hp : p.Ok), h70⟩ cdv Ar outer s H E hr => ?_
  have h8 : (clashesOf p).length ≤ 128 := h70
  show HSs _ _ [.dat (eP p)] _
  refine hs_dropN (ev_call h_check_plan p hr (by rfl) (ea_cons (vr 0) ea_nil) hp) ?_
  exact hs_ret (ev_call h_most_apart (clashesOf p) hr (by rfl) (ea_cons (ev_call h_clashes_of p hr (by rfl) (ea_cons (vr 0) ea_nil) hp) ea_nil) ⟨h8, Nat.le_trans h8 (by decide)⟩) rfl

abbrev s_count_best : Stmt := topS 36
abbrev n_count_best : List Str := ["plan"]
theorem sc_count_best : FnScope n_count_best ["plan"] (defScope s_count_best) := ⟨rfl, rfl, rfl, by decide +kernel, rfl, by decide +kernel, by decide +kernel⟩
theorem d_count_best {f fd} (A : DefAt K mg "count_best" s_count_best ["plan"] f fd) (B : Bt mg) (h_check_plan : Def P w K mg base 4 "check_plan" ["plan"] c_check_plan) (h_largest : Def P w K mg base 5 "largest" ["plan"] c_largest) : Def P w K mg base 6 "count_best" ["plan"] c_count_best := by
  refine def_mk A sc_count_best (fun _ => rfl) fun (p : Plan) (hp : p.Ok) cdv Ar outer s H E hr => ?_
  show HSs _ _ [.dat (eP p)] _
  refine hs_dropN (ev_call h_check_plan p hr (by rfl) (ea_cons (vr 0) ea_nil) hp) ?_
  refine hs_ret (ev_eq' (ev_lenL (by rfl) B.len (ev_call h_largest p hr (by rfl) (ea_cons (vr 0) ea_nil) hp)) ?_) rfl
  rw [List.length_map]

abbrev s_best : Stmt := topS 35
abbrev n_best : List Str := ["plan"]
theorem sc_best : FnScope n_best ["plan"] (defScope s_best) := ⟨rfl, rfl, rfl, by decide +kernel, rfl, by decide +kernel, by decide +kernel⟩
theorem d_best {f fd} (A : DefAt K mg "best" s_best ["plan"] f fd) (B : Bt mg) (h_check_plan : Def P w K mg base 4 "check_plan" ["plan"] c_check_plan) (h_largest : Def P w K mg base 5 "largest" ["plan"] c_largest) : Def P w K mg base 6 "best" ["plan"] c_best := by
  refine def_mk A sc_best (fun _ => rfl) fun (p : Plan) (hp : p.Ok) cdv Ar outer s H E hr => ?_
  show HSs _ _ [.dat (eP p)] _
  refine hs_dropN (ev_call h_check_plan p hr (by rfl) (ea_cons (vr 0) ea_nil) hp) ?_
  exact hs_ret (ev_ixL (ev_call h_largest p hr (by rfl) (ea_cons (vr 0) ea_nil) hp) ev_int (best_at hp)) rfl

abbrev s_to_refuse : Stmt := topS 37
abbrev n_to_refuse : List Str := ["plan", "many", "row", "number"]
theorem sc_to_refuse : FnScope n_to_refuse ["plan"] (defScope s_to_refuse) := ⟨rfl, rfl, rfl, by decide +kernel, rfl, by decide +kernel, by decide +kernel⟩
theorem d_to_refuse {f fd} (A : DefAt K mg "to_refuse" s_to_refuse ["plan"] f fd) (B : Bt mg) (h_check_plan : Def P w K mg base 4 "check_plan" ["plan"] c_check_plan) (h_largest : Def P w K mg base 5 "largest" ["plan"] c_largest) : Def P w K mg base 6 "to_refuse" ["plan"] c_to_refuse := by
  refine def_mk A sc_to_refuse (fun _ => rfl) fun (p : Plan) (hp : p.Ok) cdv Ar outer s H E hr => ?_
  show HSs _ _ [.dat (eP p), .un, .un, .un] _
  refine hs_dropN (ev_call h_check_plan p hr (by rfl) (ea_cons (vr 0) ea_nil) hp) ?_
  refine hs_set (i := 1) (d := .int (p.wishes.length : Nat)) sc_to_refuse.nd rfl (Or.inr rfl) rfl (ev_eq' (ev_lenT (by rfl) B.len (ev_ix (vr 0) ev_int rfl)) (by rw [List.length_map])) ?_
  have hw8 := hp.w8
  obtain ⟨a, l, hL⟩ : ∃ a l, (largest p).map (others p) = a :: l := by
    cases q : largest p with
    | nil => exact absurd q (largest_ne hp)
    | cons a l => exact ⟨_, _, rfl⟩
  refine hs_ret (d := eT (toRefuse p)) (ev_eq' (ev_minL (d := eT a) (ds := eLTs l) rfl hr (by rfl) B.min (ev_eq' (ev_lcE0 (enc' := eT) (f := others p) (xs := largest p) rfl sc_to_refuse.nd
    (Lc.mk1 (enc := eT) [("row", 2)] (fun r => [.dat (eP p), .dat (.int (p.wishes.length : Nat)), .dat (eT r), .un]) (ei_list (ev_call h_largest p hr (by rfl) (ea_cons (vr 0) ea_nil) hp)) (blkOk_by (N := n_to_refuse) (sc := defScope s_to_refuse) (by decide +kernel)) rfl
      (fun x _ s H C cl fp => eg_name 2 sc_to_refuse.nd) (fun _ _ => rfl) (fun _ _ => rfl)
      (fun _ _ s H C cl fp => pts_yes)
      (fun r _ _ s' H' C cl fp => ev_tupleL (by rfl) B.tuple (ev_eq' (ev_lcE (enc' := PyData.int) (f := fun (x : Int) => x) (g := fun x => decide (x ∉ r)) (xs := rangeD 0 p.wishes.length) rfl sc_to_refuse.nd
        (Lc.mk1 (enc := PyData.int) [("number", 3)] (fun x => [.dat (eP p), .dat (.int (p.wishes.length : Nat)), .dat (eT r), .dat (.int x)]) (ei_eq (ei_range1 (n := (p.wishes.length : Int)) (by rfl) B.range (vr 1) (by omega) (by omega)) (by simp)) (blkOk_in (N := n_to_refuse) (sc0 := defScope s_to_refuse) rfl (by decide +kernel)) rfl
          (fun x _ s H C cl fp => eg_name 3 sc_to_refuse.nd) (fun _ _ => rfl) (fun _ _ => rfl)
          (fun x _ s H C cl fp => pts_one (et_ninT hr (vr 3) (vr 2) (en_int.ok _) (en_T.ok _) (by rw [inD_map en_int]; rw [Bool.eq_iff_iff]; simp)))
          (fun x _ _ s' H C cl fp => vr 3))) (by rw [List.map_id']; rfl))))) (by rw [hL]; rfl)) ⟨?_, ?_⟩ ((en_lst en_T).ok (a :: l))) ?_) rfl
  · intro x hx y hy
    obtain ⟨x', _, rfl⟩ := List.mem_map.mp (show x ∈ (a :: l).map eT from hx)
    obtain ⟨y', _, rfl⟩ := List.mem_map.mp (show y ∈ (a :: l).map eT from hy)
    exact alike_row x' y'
  · intro x hx
    obtain ⟨x', _, rfl⟩ := List.mem_map.mp (show x ∈ (a :: l).map eT from hx)
    exact fun z => by cases z
  · rw [minD_map eT (fun a b => decide (a < b)) lt_row]
    unfold toRefuse
    rw [hL]; rfl

abbrev s_is_ascending : Stmt := topS 9
abbrev n_is_ascending : List Str := ["values", "one", "other"]
theorem sc_is_ascending : FnScope n_is_ascending ["values"] (defScope s_is_ascending) := ⟨rfl, rfl, rfl, by decide +kernel, rfl, by decide +kernel, by decide +kernel⟩
theorem d_is_ascending {f fd} (A : DefAt K mg "is_ascending" s_is_ascending ["values"] f fd) (B : Bt mg) : Def P w K mg base 1 "is_ascending" ["values"] c_is_ascending := by
  refine def_mk A sc_is_ascending (fun _ => rfl) fun ns _ cdv Ar outer s H E hr => ?_
  show HSs _ _ [.dat (eT ns), .un, .un] _
  refine hs_ret (ev_all rfl (by rfl) B.all (ev_lcE0 (enc' := PyData.bool) (f := fun (x : Int × Int) => decide (x.1 < x.2)) rfl sc_is_ascending.nd
    (Lc.mk1 [("one", 1), ("other", 2)] (fun x => [.dat (eT ns), .dat (.int x.1), .dat (.int x.2)]) (ei_eq (ei_zipT (by rfl) B.zip (vr 0) (ev_slT (vr 0) (eo_some ev_int) eo_none)) (zip_int ns)) (blkOk_by (N := n_is_ascending) (sc := defScope s_is_ascending) (by decide +kernel)) rfl
      (fun x _ s H C cl fp => eg_tup rfl (.cons (eg_name 1 sc_is_ascending.nd) (.cons (eg_name 2 sc_is_ascending.nd) .nil rfl) rfl)) (fun _ _ => rfl) (fun _ _ => rfl)
      (fun x _ s H C cl fp => pts_yes)
      (fun x _ _ s H C cl fp => ev_lt (vr 1) (vr 2))))) ?_
  exact congrArg PyData.bool (asc_zip ns).symm

abbrev s_are_some : Stmt := topS 14
abbrev n_are_some : List Str := ["plan", "value", "one"]
theorem sc_are_some : FnScope n_are_some ["plan", "value"] (defScope s_are_some) := ⟨rfl, rfl, rfl, by decide +kernel, rfl, by decide +kernel, by decide +kernel⟩
theorem d_are_some {f fd} (A : DefAt K mg "are_some" s_are_some ["plan", "value"] f fd) (B : Bt mg) (h_is_between : Def P w K mg base 1 "is_between" ["value", "low", "high"] c_is_between) (h_is_ascending : Def P w K mg base 1 "is_ascending" ["values"] c_is_ascending) : Def P w K mg base 2 "are_some" ["plan", "value"] c_are_some := by
  refine def_mk A sc_are_some (fun _ => rfl) fun ⟨p, d⟩ _ cdv Ar outer s H E hr => ?_
  show HSs _ _ [.dat (eP p), .dat d, .un] _
  by_cases ht : isTup d = true
  · obtain ⟨ds, rfl⟩ := isTup_of ht
    refine hs_if0 (b := !((ds.map fun x => isBetween x 0 ((p.wishes.length : Int) - 1)).all id)) (et_orF (et_nt (et_val (ev_isTup (by rfl) B.isinstance (by rfl) B.tuple (vr 1)))) (ew_or1 (et_not (et_val (ev_all rfl (by rfl) B.all (ev_lcE0 (xs := ds) (enc := fun x => x) (enc' := PyData.bool) (f := fun x => isBetween x 0 ((p.wishes.length : Int) - 1)) rfl sc_are_some.nd
        (Lc.mk1 [("one", 2)] (fun x => [.dat (eP p), .dat (.tuple ds), .dat x]) (ei_eq (ei_tup (vr 1)) (List.map_id _).symm) (blkOk_by (N := n_are_some) (sc := defScope s_are_some) (by decide +kernel)) rfl
          (fun x _ s H C cl fp => eg_name 2 sc_are_some.nd) (fun _ _ => rfl) (fun _ _ => rfl) (fun x _ s H C cl fp => pts_yes)
          (fun x _ _ s H C cl fp => ev_call h_is_between (x, 0, (p.wishes.length : Int) - 1) hr (by rfl) (ea_cons (vr 2) (ea_cons ev_int (ea_cons (ev_sub (ev_eq' (ev_lenT (by rfl) B.len (ev_ix (vr 0) ev_int rfl)) (by rw [List.length_map])) ev_int) ea_nil))) trivial))))))))
      (fun h0 => hs_ret ev_bl ?_) fun h0 => ?_
    · rw [List.all_map, Function.id_comp, Bool.not_eq_true'] at h0
      show PyData.bool ((ds.all fun x => isBetween x 0 ((p.wishes.length : Int) - 1)) && asc (ds.map toI)) = _
      rw [h0]; rfl
    · rw [List.all_map, Function.id_comp, Bool.not_eq_false'] at h0
      have e := all_toI h0
      have e2 : areSome p (.tuple ds) = asc (ds.map toI) := by
        show (_ && _) = _
        rw [h0]; rfl
      refine hs_ret (ev_call h_is_ascending (ds.map toI) hr (by rfl) (ea_cons (ev_eq' (vr 1) (congrArg PyData.tuple e)) ea_nil) trivial) ?_
      show PyData.bool (areSome p (.tuple ds)) = _
      rw [e2]
  · have ht' : isTup d = false := by simpa using ht
    refine hs_if0 (b := true) (et_orT (et_eq' (et_not (et_val (ev_isTup (by rfl) B.isinstance (by rfl) B.tuple (vr 1)))) (by rw [ht']; rfl))) (fun _ => hs_ret ev_bl ?_) (fun z => nomatch z)
    cases d <;> first | rfl | cases ht'

abbrev s_check_some : Stmt := topS 15
abbrev n_check_some : List Str := ["plan", "some"]
theorem sc_check_some : FnScope n_check_some ["plan", "some"] (defScope s_check_some) := ⟨rfl, rfl, rfl, by decide +kernel, rfl, by decide +kernel, by decide +kernel⟩
theorem d_check_some {f fd} (A : DefAt K mg "check_some" s_check_some ["plan", "some"] f fd) (B : Bt mg) (h_check_plan : Def P w K mg base 4 "check_plan" ["plan"] c_check_plan) (h_are_some : Def P w K mg base 2 "are_some" ["plan", "value"] c_are_some) : Def P w K mg base 5 "check_some" ["plan", "some"] c_check_some := by
  refine def_mk A sc_check_some (fun _ => rfl) fun ⟨p, ns⟩ ⟨hp, hs⟩ cdv Ar outer s H E hr => ?_
  show HSs _ _ [.dat (eP p), .dat (eT ns)] _
  refine hs_dropN (ev_call h_check_plan p hr (by rfl) (ea_cons (vr 0) ea_nil) hp) ?_
  exact hs_if0 (b := false) (et_nt (et_val (ev_call h_are_some (p, eT ns) hr (by rfl) (ea_cons (vr 0) (ea_cons (vr 1) ea_nil)) trivial)) (by show (!areSome p (eT ns)) = false; rw [areSome_ok hs]; rfl)) (fun z => nomatch z) fun _ => hs_nil rfl

abbrev s_check_number : Stmt := topS 16
abbrev n_check_number : List Str := ["value", "low", "high"]
theorem sc_check_number : FnScope n_check_number ["value", "low", "high"] (defScope s_check_number) := ⟨rfl, rfl, rfl, by decide +kernel, rfl, by decide +kernel, by decide +kernel⟩
theorem d_check_number {f fd} (A : DefAt K mg "check_number" s_check_number ["value", "low", "high"] f fd) (B : Bt mg) (h_is_between : Def P w K mg base 1 "is_between" ["value", "low", "high"] c_is_between) : Def P w K mg base 2 "check_number" ["value", "low", "high"] c_check_number := by
  refine def_mk A sc_check_number (fun _ => rfl) fun (⟨a, lo, hi⟩ : Int × Int × Int) ⟨h1, h2⟩ cdv Ar outer s H E hr => ?_
  have h1' : lo ≤ a := h1
  have h2' : a ≤ hi := h2
  show HSs _ _ [.dat (.int a), .dat (.int lo), .dat (.int hi)] _
  refine hs_if0 (b := false) (et_nt (et_val (ev_call h_is_between (.int a, lo, hi) hr (by rfl) (ea_cons (vr 0) (ea_cons (vr 1) (ea_cons (vr 2) ea_nil))) trivial (by show Eq (PyData.bool (isBetween (.int a) lo hi)) = Eq (.bool true); rw [isBetween_int, decide_eq_true h1', decide_eq_true h2']; rfl)))) (fun z => nomatch z) fun _ => hs_nil rfl

abbrev s_check_good : Stmt := topS 42
abbrev n_check_good : List Str := ["plan", "some"]
theorem sc_check_good : FnScope n_check_good ["plan", "some"] (defScope s_check_good) := ⟨rfl, rfl, rfl, by decide +kernel, rfl, by decide +kernel, by decide +kernel⟩
theorem d_check_good {f fd} (A : DefAt K mg "check_good" s_check_good ["plan", "some"] f fd) (B : Bt mg) (h_are_good : Def P w K mg base 3 "are_good" ["plan", "wishes"] c_are_good) (h_named : Def P w K mg base 1 "named" ["plan", "some"] c_named) : Def P w K mg base 4 "check_good" ["plan", "some"] c_check_good := by
  refine def_mk A sc_check_good (fun _ => rfl) fun (⟨p, s⟩ : Plan × List Int) ⟨(hp : p.Ok), (hs : SomeOk p s), hg⟩ cdv Ar outer sh H E hr => ?_
  have hg' : good p s = true := hg
  show HSs _ _ [.dat (eP p), .dat (eT s)] _
  refine hs_if0 (b := false) (et_nt (et_val (ev_call h_are_good (p, named p s) hr (by rfl) (ea_cons (vr 0) (ea_cons (ev_call h_named (p, s) hr (by rfl) (ea_cons (vr 0) (ea_cons (vr 1) ea_nil)) hs.rng) ea_nil)) ⟨hp, hs.wsok hp⟩ (by show Eq (PyData.bool (areGood p (named p s))) = Eq (.bool true); rw [good_eq hp hs, hg'])))) (fun z => nomatch z) fun _ => hs_nil rfl

abbrev s_trips : Stmt := topS 48
abbrev n_trips : List Str := ["loans", "wait", "found", "one", "other"]
theorem sc_trips : FnScope n_trips ["loans", "wait"] (defScope s_trips) := ⟨rfl, rfl, rfl, by decide +kernel, rfl, by decide +kernel, by decide +kernel⟩
theorem d_trips {f fd} (A : DefAt K mg "trips" s_trips ["loans", "wait"] f fd) (B : Bt mg) : Def P w K mg base 1 "trips" ["loans", "wait"] c_trips := by
  refine def_mk A sc_trips (fun _ => rfl) fun (⟨l, wait⟩ : List Wish × Int) hl0 cdv Ar outer s H E hr => ?_
  have hl : l.length ≤ 100 := hl0
  show HSs _ _ [.dat (eLW l), .dat (.int wait), .un, .un, .un] _
  refine hs_if0 (b := l.isEmpty) (et_eq hr (vr 0) (ev_lst ea_nil) ((en_lst en_wish).ok l) rfl (by rw [eqv_lnil, List.isEmpty_map])) (fun h0 => hs_ret ev_int ?_) fun h0 => ?_
  · show PyData.int (trips l wait) = _
    unfold trips
    rw [if_pos h0]
  refine hs_set (i := 2) (d := .int 2) sc_trips.nd rfl (Or.inl rfl) rfl ev_int ?_
  refine hs_forD (xs := l.zip (l.drop 1)) (enc := fun x => .tuple [eW x.1, eW x.2]) (fun i => [.dat (eLW l), .dat (.int wait), .dat (.int (2 + (((l.zip (l.drop 1)).take i).map fun x => tripStep wait x.1 x.2).sum)), .un, .un]) PassesOwn.never rfl (ei_eq (ei_zipL (by rfl) B.zip (vr 0) (ev_slL (vr 0) (eo_some ev_int) eo_none)) (by rw [cutD_1, ← List.map_drop]; unfold zipD; rw [List.zipWith_map, List.zip, List.map_zipWith])) rfl (fun i x hx => ?_) ?_
  · refine ⟨[.dat (eLW l), .dat (.int wait), .dat (.int (2 + (((l.zip (l.drop 1)).take i).map fun x => tripStep wait x.1 x.2).sum)), .dat (eW x.1), .dat (eW x.2)], [3, 4], eg_tup rfl (.cons (eg_name 3 sc_trips.nd) (.cons (eg_name 4 sc_trips.nd) .nil rfl) rfl), ?_⟩
    have e : (((l.zip (l.drop 1)).take (i + 1)).map fun x => tripStep wait x.1 x.2).sum = (((l.zip (l.drop 1)).take i).map fun x => tripStep wait x.1 x.2).sum + tripStep wait x.1 x.2 := by
      rw [take_succ hx, List.map_append, List.sum_append]; simp
    rw [e]
    generalize (((l.zip (l.drop 1)).take i).map fun x => tripStep wait x.1 x.2).sum = t
    refine hs_if (b := decide (wait < x.2.first - x.1.last - 1)) (fun r => r = [.dat (eLW l), .dat (.int wait), .dat (.int (2 + (t + tripStep wait x.1 x.2))), .dat (eW x.1), .dat (eW x.2)]) (et_gt (ev_sub (ev_sub (ev_ix (vr 4) ev_int rfl) (ev_ix (vr 3) ev_int rfl)) ev_int) (vr 1)) (fun hb => ?_) (fun hb => ?_) fun r hr' => ?_
    · refine hs_aug (i := 2) sc_trips.nd rfl (Or.inl rfl) rfl ev_int (hs_nil ?_)
      have : tripStep wait x.1 x.2 = 2 := if_pos (of_decide_eq_true hb)
      rw [this, Int.add_assoc]
      rfl
    · have hb' := of_decide_eq_false hb
      refine hs_if (b := !decide (x.2.house = x.1.house)) (fun r => r = [.dat (eLW l), .dat (.int wait), .dat (.int (2 + (t + tripStep wait x.1 x.2))), .dat (eW x.1), .dat (eW x.2)]) (et_ne hr (ev_ix (vr 4) ev_int rfl) (ev_ix (vr 3) ev_int rfl) (en_int.ok _) (en_int.ok _) (by rw [eqI])) (fun hc => ?_) (fun hc => ?_) fun r hr' => ?_
      · refine hs_aug (i := 2) sc_trips.nd rfl (Or.inl rfl) rfl ev_int (hs_nil ?_)
        have : tripStep wait x.1 x.2 = 1 := by unfold tripStep; rw [if_neg hb', if_neg (by simpa using hc)]
        rw [this, Int.add_assoc]
        rfl
      · refine hs_nil ?_
        have : tripStep wait x.1 x.2 = 0 := by unfold tripStep; rw [if_neg hb', if_pos (by simpa using hc)]
        rw [this, Int.add_zero]
      · subst hr'
        exact hs_nil rfl
    · subst hr'
      exact hs_nilW [3, 4] rfl
  · rw [List.take_length, trips_zip]
    refine hs_ret (vr 2) ?_
    show PyData.int (trips l wait) = _
    unfold trips
    rw [if_neg (by rw [h0]; exact Bool.false_ne_true)]

abbrev s_journeys : Stmt := topS 49
abbrev n_journeys : List Str := ["plan", "some", "wait", "found", "item", "wish", "rows", "begin"]
theorem sc_journeys : FnScope n_journeys ["plan", "some", "wait"] (defScope s_journeys) := ⟨rfl, rfl, rfl, by decide +kernel, rfl, by decide +kernel, by decide +kernel⟩
theorem d_journeys {f fd} (A : DefAt K mg "journeys" s_journeys ["plan", "some", "wait"] f fd) (B : Bt mg) (h_check_some : Def P w K mg base 5 "check_some" ["plan", "some"] c_check_some) (h_check_number : Def P w K mg base 2 "check_number" ["value", "low", "high"] c_check_number) (h_check_good : Def P w K mg base 4 "check_good" ["plan", "some"] c_check_good) (h_named : Def P w K mg base 1 "named" ["plan", "some"] c_named) (h_trips : Def P w K mg base 1 "trips" ["loans", "wait"] c_trips) : Def P w K mg base 6 "journeys" ["plan", "some", "wait"] c_journeys := by
  refine def_mk A sc_journeys (fun _ => rfl) fun (⟨p, s, wait⟩ : Plan × List Int × Int) ⟨(hp : p.Ok), (hs : SomeOk p s), (hw : 0 ≤ wait ∧ wait ≤ 60), hg⟩ cdv Ar outer sh H E hr => ?_
  have hg' : good p s = true := hg
  have ho4 := hp.o4
  have hw8 := hp.w8
  have hsl := hs.len
  show HSs _ _ [.dat (eP p), .dat (eT s), .dat (.int wait), .un, .un, .un, .un, .un] _
  refine hs_dropN (ev_call h_check_some (p, s) hr (by rfl) (ea_cons (vr 0) (ea_cons (vr 1) ea_nil)) ⟨hp, hs⟩) ?_
  refine hs_dropN (ev_call h_check_number (wait, 0, 60) hr (by rfl) (ea_cons (vr 2) (ea_cons ev_int (ea_cons ev_int ea_nil))) ⟨hw.1, hw.2⟩) ?_
  refine hs_dropN (ev_call h_check_good (p, s) hr (by rfl) (ea_cons (vr 0) (ea_cons (vr 1) ea_nil)) ⟨hp, hs, hg'⟩) ?_
  refine hs_set (i := 3) (d := .int 0) sc_journeys.nd rfl (Or.inl rfl) rfl ev_int ?_
  refine hs_forD (xs := rangeD 0 p.objects.length) (enc := PyData.int) (fun i => [.dat (eP p), .dat (eT s), .dat (.int wait), .dat (.int (journeysN p s wait i)), .un, .un, .un, .un]) PassesOwn.never rfl (ei_eq (ei_range1 (n := (p.objects.length : Int)) (by rfl) B.range (ev_eq' (ev_lenT (by rfl) B.len (ev_ix (vr 0) ev_int rfl)) (by rw [List.length_map])) (by omega) (by omega)) (by simp)) rfl (fun i x hx => ?_) ?_
  · obtain ⟨rfl, hi⟩ := rangeD_get hx
    refine ⟨_, [4], eg_name 4 sc_journeys.nd, ?_⟩
    refine hs_set (i := 6) (d := .list ((sortW (itemW p s i)).map eFW)) sc_journeys.nd rfl (Or.inl rfl) rfl (ev_eq' (ev_sortedL hr (by rfl) B.sorted (ds := (itemW p s i).map eFW) (ev_eq' (ev_lcE (enc' := eFW) (f := fun (w : Wish) => w) (g := fun w => decide (w.item = (i : Int))) (xs := named p s) rfl sc_journeys.nd
      (Lc.mk1 (enc := eW) [("wish", 5)] (fun w => [.dat (eP p), .dat (eT s), .dat (.int wait), .dat (.int (journeysN p s wait i)), .dat (.int (i : Nat)), .dat (eW w), .un, .un]) (ei_list (ev_call h_named (p, s) hr (by rfl) (ea_cons (vr 0) (ea_cons (vr 1) ea_nil)) hs.rng)) (blkOk_by (N := n_journeys) (sc := defScope s_journeys) (by decide +kernel)) rfl
        (fun w _ s H C cl fp => eg_name 5 sc_journeys.nd) (fun _ _ => rfl) (fun _ _ => rfl)
        (fun w _ s H C cl fp => pts_one (et_eq hr (ev_ix (vr 5) ev_int rfl) (vr 4) (en_int.ok _) (en_int.ok _) (eqI _ _)))
        (fun w _ _ s H C cl fp => ev_tup (ea_cons (ev_ix (vr 5) ev_int rfl) (ea_cons (vr 5) ea_nil))))) (by rw [List.map_id']; rfl)) (srt_fw _)) (congrArg PyData.list (sort_fw _))) ?_
    show HSs _ _ [.dat (eP p), .dat (eT s), .dat (.int wait), .dat (.int (journeysN p s wait i)), .dat (.int (i : Nat)), .un, .dat (.list ((sortW (itemW p s i)).map eFW)), .un] _
    have hlen : (sortW (itemW p s i)).length ≤ 100 := by
      rw [sortW_len]
      refine Nat.le_trans (List.length_filter_le ..) ?_
      unfold named
      rw [List.length_map]; omega
    refine hs_aug (i := 3) sc_journeys.nd rfl (Or.inl rfl) rfl (ev_call h_trips (sortW (itemW p s i), wait) hr (by rfl) (ea_cons (ev_eq' (ev_lcE0 (enc' := eW) (f := fun (w : Wish) => w) (xs := sortW (itemW p s i)) rfl sc_journeys.nd
      (Lc.mk1 (enc := eFW) [("begin", 7), ("wish", 5)] (fun w => [.dat (eP p), .dat (eT s), .dat (.int wait), .dat (.int (journeysN p s wait i)), .dat (.int (i : Nat)), .dat (eW w), .dat (.list ((sortW (itemW p s i)).map eFW)), .dat (.int w.first)]) (ei_list (vr 6)) (blkOk_by (N := n_journeys) (sc := defScope s_journeys) (by decide +kernel)) rfl
        (fun w _ s H C cl fp => eg_tup rfl (.cons (eg_name 7 sc_journeys.nd) (.cons (eg_name 5 sc_journeys.nd) .nil rfl) rfl)) (fun _ _ => rfl) (fun _ _ => rfl) (fun _ _ s H C cl fp => pts_yes)
        (fun w _ _ s H C cl fp => vr 5))) (by rw [List.map_id'])) (ea_cons (vr 2) ea_nil)) hlen) ?_
    refine hs_nilW [4, 6] ?_
    rw [journeysN_succ]
    rfl
  · rw [rangeD_len]
    exact hs_ret (vr 3) rfl

abbrev s_check_wish : Stmt := topS 40
abbrev n_check_wish : List Str := ["plan", "wish"]
theorem sc_check_wish : FnScope n_check_wish ["plan", "wish"] (defScope s_check_wish) := ⟨rfl, rfl, rfl, by decide +kernel, rfl, by decide +kernel, by decide +kernel⟩
theorem d_check_wish {f fd} (A : DefAt K mg "check_wish" s_check_wish ["plan", "wish"] f fd) (B : Bt mg) (h_check_plan : Def P w K mg base 4 "check_plan" ["plan"] c_check_plan) (h_check_number : Def P w K mg base 2 "check_number" ["value", "low", "high"] c_check_number) : Def P w K mg base 5 "check_wish" ["plan", "wish"] c_check_wish := by
  refine def_mk A sc_check_wish (fun _ => rfl) fun (⟨p, x⟩ : Plan × Int) ⟨(hp : p.Ok), h1, h2⟩ cdv Ar outer s H E hr => ?_
  have h1' : 0 ≤ x := h1
  have h2' : x < p.wishes.length := h2
  show HSs _ _ [.dat (eP p), .dat (.int x)] _
  refine hs_dropN (ev_call h_check_plan p hr (by rfl) (ea_cons (vr 0) ea_nil) hp) ?_
  refine hs_dropN (ev_call h_check_number (x, 0, (p.wishes.length : Int) - 1) hr (by rfl) (ea_cons (vr 1) (ea_cons ev_int (ea_cons (ev_sub (ev_eq' (ev_lenT (by rfl) B.len (ev_ix (vr 0) ev_int rfl)) (by rw [List.length_map])) ev_int) ea_nil))) ⟨h1', by show x ≤ (p.wishes.length : Int) - 1; omega⟩) ?_
  exact hs_nil rfl

abbrev s_role : Stmt := topS 41
abbrev n_role : List Str := ["plan", "wish", "row", "some"]
theorem sc_role : FnScope n_role ["plan", "wish"] (defScope s_role) := ⟨rfl, rfl, rfl, by decide +kernel, rfl, by decide +kernel, by decide +kernel⟩
theorem d_role {f fd} (A : DefAt K mg "role" s_role ["plan", "wish"] f fd) (B : Bt mg) (h_check_wish : Def P w K mg base 5 "check_wish" ["plan", "wish"] c_check_wish) (h_largest : Def P w K mg base 5 "largest" ["plan"] c_largest) : Def P w K mg base 6 "role" ["plan", "wish"] c_role := by
  refine def_mk A sc_role (fun _ => rfl) fun (⟨p, x⟩ : Plan × Int) ⟨(hp : p.Ok), h1, h2⟩ cdv Ar outer sh H E hr => ?_
  show HSs _ _ [.dat (eP p), .dat (.int x), .un, .un] _
  refine hs_dropN (ev_call h_check_wish (p, x) hr (by rfl) (ea_cons (vr 0) (ea_cons (vr 1) ea_nil)) ⟨hp, h1, h2⟩) ?_
  refine hs_setLc (i := 3) rfl sc_role.nd rfl rfl rfl (sw_true rfl rfl rfl (by decide +kernel))
    (Lc.mk1 (enc := eT) (xs := largest p) (f := fun r => PyData.bool (decide (x ∈ r))) (g := fun _ => true) [("row", 2)] (fun r => [.dat (eP p), .dat (.int x), .dat (eT r), .un]) (ei_list (ev_call h_largest p hr (by rfl) (ea_cons (vr 0) ea_nil) hp)) (blkOk_by (N := n_role) (sc := defScope s_role) (by decide +kernel)) rfl
      (fun x _ s H C cl fp => eg_name 2 sc_role.nd) (fun _ _ => rfl) (fun _ _ => rfl)
      (fun _ _ s H C cl fp => pts_yes)
      (fun r _ _ s' H C cl fp => ev_inT hr (vr 1) (vr 2) (en_int.ok _) (en_T.ok _) (inD_map en_int _ _))) fun ds es e he => ?_
  have e2 : es = ((largest p).map fun r => decide (x ∈ r)).map PyData.bool := lc_is0 e he
  subst e2
  show HSs _ _ [.dat (eP p), .dat (.int x), .un, .dat (.list (((largest p).map fun r => decide (x ∈ r)).map PyData.bool))] _
  refine hs_ret (ev_if (d' := .none) (k := (largest p).all fun r => decide (x ∈ r)) (d := .str (roleOf p x)) (et_eq' (et_val (ev_all rfl (by rfl) B.all (vr 3))) (by rw [List.all_map]; rfl)) (fun h => ev_eq' (db := .str (roleOf p x)) ev_str ?_) (fun h => ev_if (d' := .none) (k := (largest p).any fun r => decide (x ∈ r)) (et_eq' (et_val (ev_any rfl (by rfl) B.any (vr 3))) (by rw [List.any_map]; rfl)) (fun h' => ev_eq' (db := .str (roleOf p x)) ev_str ?_) (fun h' => ev_eq' (db := .str (roleOf p x)) ev_str ?_))) rfl
  all_goals unfold roleOf
  · rw [if_pos h]
  · rw [if_neg (by rw [h]; exact Bool.false_ne_true), if_pos h']
  · rw [if_neg (by rw [h]; exact Bool.false_ne_true), if_neg (by rw [h']; exact Bool.false_ne_true)]

abbrev s_check_item : Stmt := topS 45
abbrev n_check_item : List Str := ["plan", "item"]
theorem sc_check_item : FnScope n_check_item ["plan", "item"] (defScope s_check_item) := ⟨rfl, rfl, rfl, by decide +kernel, rfl, by decide +kernel, by decide +kernel⟩
theorem d_check_item {f fd} (A : DefAt K mg "check_item" s_check_item ["plan", "item"] f fd) (B : Bt mg) (h_check_plan : Def P w K mg base 4 "check_plan" ["plan"] c_check_plan) (h_check_number : Def P w K mg base 2 "check_number" ["value", "low", "high"] c_check_number) : Def P w K mg base 5 "check_item" ["plan", "item"] c_check_item := by
  refine def_mk A sc_check_item (fun _ => rfl) fun (⟨p, x⟩ : Plan × Int) ⟨(hp : p.Ok), (hi : InObj p x)⟩ cdv Ar outer s H E hr => ?_
  have h1' := hi.1
  have h2' := hi.2
  show HSs _ _ [.dat (eP p), .dat (.int x)] _
  refine hs_dropN (ev_call h_check_plan p hr (by rfl) (ea_cons (vr 0) ea_nil) hp) ?_
  refine hs_dropN (ev_call h_check_number (x, 0, (p.objects.length : Int) - 1) hr (by rfl) (ea_cons (vr 1) (ea_cons ev_int (ea_cons (ev_sub (ev_eq' (ev_lenT (by rfl) B.len (ev_ix (vr 0) ev_int rfl)) (by rw [List.length_map])) ev_int) ea_nil))) ⟨h1', by show x ≤ (p.objects.length : Int) - 1; omega⟩) ?_
  exact hs_nil rfl

abbrev s_ends_met : Stmt := topS 46
abbrev n_ends_met : List Str := ["spans", "found", "begin", "end"]
theorem sc_ends_met : FnScope n_ends_met ["spans"] (defScope s_ends_met) := ⟨rfl, rfl, rfl, by decide +kernel, rfl, by decide +kernel, by decide +kernel⟩
theorem d_ends_met {f fd} (A : DefAt K mg "ends_met" s_ends_met ["spans"] f fd) (B : Bt mg) : Def P w K mg base 1 "ends_met" ["spans"] c_ends_met := by
  refine def_mk A sc_ends_met (fun _ => rfl) fun (l : List Span) (hl : l.length ≤ 100) cdv Ar outer s H E hr => ?_
  show HSs _ _ [.dat (eLP l), .un, .un, .un] _
  refine hs_setF (i := 1) sc_ends_met.nd rfl (Or.inl rfl) rfl (ef_lst ea_nil (fun ds e => by subst e; decide)) fun ds e => ?_
  subst e
  refine hs_forD (xs := l) (enc := eII) (fun i => [.dat (eLP l), .own (((l.take i).foldl endStep []).map PyData.int), .un, .un]) PassesOwn.never rfl (ei_list (vr 0)) rfl (fun i x hx => ?_) ?_
  · refine ⟨[.dat (eLP l), .own (((l.take i).foldl endStep []).map PyData.int), .dat (.int x.1), .dat (.int x.2)], [2, 3], eg_tup rfl (.cons (eg_name 2 sc_ends_met.nd) (.cons (eg_name 3 sc_ends_met.nd) .nil rfl) rfl), ?_⟩
    have step : (l.take (i + 1)).foldl endStep [] = endStep ((l.take i).foldl endStep []) x := by rw [take_succ hx, List.foldl_append]; rfl
    have len : ((l.take i).foldl endStep []).length ≤ 100 := by
      rw [fold_ends]
      refine Nat.le_trans (greedy_len _ _) ?_
      rw [List.length_take]; omega
    rw [step]
    generalize (l.take i).foldl endStep [] = f at len
    refine hs_if (b := f.isEmpty || decide (f.getLastD 0 < x.1)) (fun r => r = [.dat (eLP l), .own ((endStep f x).map PyData.int), .dat (.int x.1), .dat (.int x.2)])
      (et_own (ρ := [.dat (eLP l), .own (f.map PyData.int), .dat (.int x.1), .dat (.int x.2)]) trivial (et_or f.isEmpty (decide (f.getLastD 0 < x.1)) (et_eq hr (vr 1) (ev_lst ea_nil) ((en_lst en_int).ok f) rfl (by rw [eqv_lnil, List.isEmpty_map])) fun he => ew_or1 (et_gt (vr 2) (ev_ixL (vr 1) (ev_neg ev_int) ?_)))) (fun hb => ?_) (fun hb => ?_) fun r hr' => ?_
    · cases f with
      | nil => cases he
      | cons a f =>
        have e : (a :: f) = (a :: f).dropLast ++ [(a :: f).getLastD 0] := by
          rw [List.getLastD_cons, ← List.getLast_eq_getLastD]
          exact (List.dropLast_concat_getLast (List.cons_ne_nil a f)).symm
        generalize (a :: f).getLastD 0 = v at e
        rw [e, List.map_append]
        exact atI_last _ _
    · refine hs_appendN (i := 1) rfl (Or.inl rfl) rfl (vr 3) ?_ fun d hd => hs_nil ?_
      · rw [List.length_map]; show f.length + 1 ≤ 4096; omega
      · subst hd
        unfold endStep
        rw [if_pos hb, List.map_append]
        rfl
    · refine hs_nil ?_
      unfold endStep
      rw [if_neg (by rw [hb]; exact Bool.false_ne_true)]
    · subst hr'
      exact hs_nilW [2, 3] rfl
  · rw [List.take_length, fold_ends]
    exact hs_freeze 1 rfl (hs_ret (vr 1) rfl)

abbrev s_spans_of : Stmt := topS 44
abbrev n_spans_of : List Str := ["plan", "item", "rest", "wish", "end", "begin"]
theorem sc_spans_of : FnScope n_spans_of ["plan", "item"] (defScope s_spans_of) := ⟨rfl, rfl, rfl, by decide +kernel, rfl, by decide +kernel, by decide +kernel⟩
theorem d_spans_of {f fd} (A : DefAt K mg "spans_of" s_spans_of ["plan", "item"] f fd) (B : Bt mg) : Def P w K mg base 1 "spans_of" ["plan", "item"] c_spans_of := by
  refine def_mk A sc_spans_of (fun _ => rfl) fun (⟨p, i⟩ : Plan × Int) ⟨(hp : p.Ok), (hi : InObj p i)⟩ cdv Ar outer sh H E hr => ?_
  have hw8 := hp.w8
  show HSs _ _ [.dat (eP p), .dat (.int i), .un, .un, .un, .un] _
  refine hs_set (i := 2) (d := .int (p.obj i).rest) sc_spans_of.nd rfl (by first | exact Or.inl rfl | exact Or.inr rfl) rfl (ev_ix (ev_ix (ev_ix (vr 0) ev_int rfl) (vr 1) (p.at_obj hi.1 hi.2)) ev_int rfl) ?_
  show HSs _ _ [.dat (eP p), .dat (.int i), .dat (.int (p.obj i).rest), .un, .un, .un] _
  refine hs_ret (ev_lcE0 (enc' := eII) (f := fun (x : Int × Int) => (x.2, x.1)) (xs := sortP (endsOf p i)) rfl sc_spans_of.nd
    (Lc.mk1 (enc := eII) [("end", 4), ("begin", 5)] (fun x => [.dat (eP p), .dat (.int i), .dat (.int (p.obj i).rest), .un, .dat (.int x.1), .dat (.int x.2)])
      (ei_list (ev_eq' (ev_sortedL hr (by rfl) B.sorted (ds := (endsOf p i).map eII) (ev_eq' (ev_lcE (enc' := eII) (f := fun (w : Wish) => (w.last + (p.obj i).rest, w.first)) (g := fun w => decide (w.item = i)) (xs := p.wishes) rfl sc_spans_of.nd
        (Lc.mk1 (enc := eW) [("wish", 3)] (fun w => [.dat (eP p), .dat (.int i), .dat (.int (p.obj i).rest), .dat (eW w), .un, .un]) (ei_tup (ev_ix (vr 0) ev_int rfl)) (blkOk_by (N := n_spans_of) (sc := defScope s_spans_of) (by decide +kernel)) rfl
          (fun w _ s H C cl fp => eg_name 3 sc_spans_of.nd) (fun _ _ => rfl) (fun _ _ => rfl)
          (fun w _ s H C cl fp => pts_one (et_eq hr (ev_ix (vr 3) ev_int rfl) (vr 1) (en_int.ok _) (en_int.ok _) (eqI _ _)))
          (fun w _ _ s H C cl fp => ev_tup (ea_cons (ev_add (ev_ix (vr 3) ev_int rfl) (vr 2)) (ea_cons (ev_ix (vr 3) ev_int rfl) ea_nil))))) rfl) (srt_pairs (endsOf p i))) (congrArg PyData.list (sort_pairs _))))
      (blkOk_by (N := n_spans_of) (sc := defScope s_spans_of) (by decide +kernel)) rfl
      (fun x _ s H C cl fp => eg_tup rfl (.cons (eg_name 4 sc_spans_of.nd) (.cons (eg_name 5 sc_spans_of.nd) .nil rfl) rfl)) (fun _ _ => rfl) (fun _ _ => rfl) (fun _ _ s H C cl fp => pts_yes)
      (fun x _ _ s H C cl fp => ev_tup (ea_cons (vr 5) (ea_cons (vr 4) ea_nil))))) rfl

abbrev s_loans_of : Stmt := topS 47
abbrev n_loans_of : List Str := ["plan", "item"]
theorem sc_loans_of : FnScope n_loans_of ["plan", "item"] (defScope s_loans_of) := ⟨rfl, rfl, rfl, by decide +kernel, rfl, by decide +kernel, by decide +kernel⟩
theorem d_loans_of {f fd} (A : DefAt K mg "loans_of" s_loans_of ["plan", "item"] f fd) (B : Bt mg) (h_check_item : Def P w K mg base 5 "check_item" ["plan", "item"] c_check_item) (h_ends_met : Def P w K mg base 1 "ends_met" ["spans"] c_ends_met) (h_spans_of : Def P w K mg base 1 "spans_of" ["plan", "item"] c_spans_of) : Def P w K mg base 6 "loans_of" ["plan", "item"] c_loans_of := by
  refine def_mk A sc_loans_of (fun _ => rfl) fun (⟨p, i⟩ : Plan × Int) ⟨(hp : p.Ok), (hi : InObj p i)⟩ cdv Ar outer sh H E hr => ?_
  have hw8 := hp.w8
  have hsl := spans_len p i
  show HSs _ _ [.dat (eP p), .dat (.int i)] _
  refine hs_dropN (ev_call h_check_item (p, i) hr (by rfl) (ea_cons (vr 0) (ea_cons (vr 1) ea_nil)) ⟨hp, hi⟩) ?_
  refine hs_ret (ev_eq' (ev_lenL (by rfl) B.len (ev_call h_ends_met (spansOf p i) hr (by rfl) (ea_cons (ev_call h_spans_of (p, i) hr (by rfl) (ea_cons (vr 0) (ea_cons (vr 1) ea_nil)) ⟨hp, hi⟩) ea_nil) (by omega : _ ≤ 100))) ?_) rfl
  rw [List.length_map]; rfl

abbrev s_crowded : Stmt := topS 23
abbrev n_crowded : List Str := ["plan", "wishes", "found", "house", "limit", "week"]
theorem sc_crowded : FnScope n_crowded ["plan", "wishes"] (defScope s_crowded) := ⟨rfl, rfl, rfl, by decide +kernel, rfl, by decide +kernel, by decide +kernel⟩
theorem d_crowded {f fd} (A : DefAt K mg "crowded" s_crowded ["plan", "wishes"] f fd) (B : Bt mg) (g_LAST : G_LAST mg) (h_value_at : Def P w K mg base 1 "value_at" ["plan", "wishes", "house", "week"] c_value_at) : Def P w K mg base 2 "crowded" ["plan", "wishes"] c_crowded := by
  obtain ⟨tl, g_LAST⟩ := g_LAST
  refine def_mk A sc_crowded (fun _ => rfl) fun ⟨p, ws⟩ ⟨hp, hw⟩ cdv Ar outer s H E hr => ?_
  show HSs _ _ [.dat (eP p), .dat (eLW ws), .un, .un, .un, .un] _
  refine hs_setF (i := 2) sc_crowded.nd rfl (Or.inl rfl) rfl (ef_lst ea_nil (fun ds e => by subst e; decide)) fun ds e => ?_
  subst e
  have sz : p.houses.length ≤ 4 := hp.h4
  refine hs_forD (xs := p.houses.zipIdx) (enc := fun x => .tuple [.int (x.2 : Nat), .int x.1]) (fun i => [.dat (eP p), .dat (eLW ws), .own (((p.houses.zipIdx.take i).flatMap fun x => (crowdRow p ws x.1 x.2).map fun k => ((x.2 : Int), k)).map eII), .un, .un, .un]) PassesOwn.never rfl (ei_eq (ei_enumT (by rfl) B.enumerate (ev_ix (vr 0) ev_int rfl)) (enumD_map PyData.int p.houses)) rfl (fun i x hx => ?_) ?_
  · obtain ⟨hw', hi⟩ := zipIdx_get hx
    obtain ⟨l, i'⟩ := x
    subst hi
    refine ⟨[.dat (eP p), .dat (eLW ws), .own (((p.houses.zipIdx.take i').flatMap fun x => (crowdRow p ws x.1 x.2).map fun k => ((x.2 : Int), k)).map eII), .dat (.int (i' : Nat)), .dat (.int l), .un], [3, 4], eg_tup rfl (.cons (eg_name 3 sc_crowded.nd) (.cons (eg_name 4 sc_crowded.nd) .nil rfl) rfl), ?_⟩
    have pl := crowded_pre_len p ws sz i'
    have rl := crowdRow_len p ws l i'
    refine hs_extend (i := 2) rfl (Or.inl rfl) rfl (es := ((crowdRow p ws l i').map fun k => ((i' : Int), k)).map eII) (ev_lcE (enc' := eII) (f := fun (k : Int) => ((i' : Int), k)) (g := fun k => decide (l < valueAt p ws i' k)) (xs := rangeD 0 61) (enc := PyData.int) rfl sc_crowded.nd
      (Lc.mk1 [("week", 5)] (fun k => [.dat (eP p), .dat (eLW ws), .own (((p.houses.zipIdx.take i').flatMap fun x => (crowdRow p ws x.1 x.2).map fun k => ((x.2 : Int), k)).map eII), .dat (.int (i' : Nat)), .dat (.int l), .dat (.int k)]) (ei_range1 (n := 61) (by rfl) B.range (ev_add (i := 60) (ev_globI (by rfl) g_LAST) ev_int)) (blkOk_by (N := n_crowded) (sc := defScope s_crowded) (by decide +kernel)) rfl
        (fun k _ s H C cl fp => eg_name 5 sc_crowded.nd) (fun _ _ => rfl) (fun _ _ => rfl)
        (fun k hk s H C cl fp => pts_one (et_gt (ev_call h_value_at (p, ws, (i' : Int), k) hr (by rfl) (ea_cons (vr 0) (ea_cons (vr 1) (ea_cons (vr 3) (ea_cons (vr 5) ea_nil)))) hw) (vr 4)))
        (fun k _ _ s H C cl fp => ev_tup (ea_cons (vr 3) (ea_cons (vr 5) ea_nil))))) ?_ ?_
    · rw [List.length_map, List.length_map, List.length_map]
      show _ ≤ 4096
      omega
    · refine hs_nilW [3, 4] ?_
      rw [flatMap_step hx, List.map_append]
      rfl
  · rw [List.take_length]
    exact hs_freeze 2 rfl (hs_ret (vr 2) rfl)

abbrev s_reasons_of : Stmt := topS 25
abbrev n_reasons_of : List Str := ["plan", "some", "wishes", "item", "found", "one", "other", "house", "week"]
theorem sc_reasons_of : FnScope n_reasons_of ["plan", "some"] (defScope s_reasons_of) := ⟨rfl, rfl, rfl, by decide +kernel, rfl, by decide +kernel, by decide +kernel⟩
theorem d_reasons_of {f fd} (A : DefAt K mg "reasons_of" s_reasons_of ["plan", "some"] f fd) (B : Bt mg) (h_named : Def P w K mg base 1 "named" ["plan", "some"] c_named) (h_bleached : Def P w K mg base 2 "bleached" ["plan", "wishes"] c_bleached) (h_tired : Def P w K mg base 2 "tired" ["plan", "wishes"] c_tired) (h_crowded : Def P w K mg base 2 "crowded" ["plan", "wishes"] c_crowded) : Def P w K mg base 3 "reasons_of" ["plan", "some"] c_reasons_of := by
  refine def_mk A sc_reasons_of (fun _ => rfl) fun ⟨p, ns⟩ ⟨hp, hs⟩ cdv Ar outer s H E hr => ?_
  show HSs _ _ [.dat (eP p), .dat (eT ns), .un, .un, .un, .un, .un, .un, .un] _
  have hn : WsOk p (named p ns) := hs.wsok hp
  have l1 := bleached_len p (named p ns) hp
  have l2 := tired_len p (named p ns) hn.len
  have l3 := crowded_len p (named p ns) hp.h4
  refine hs_set (i := 2) sc_reasons_of.nd rfl (Or.inl rfl) rfl (ev_call h_named (p, ns) hr (by rfl) (ea_cons (vr 0) (ea_cons (vr 1) ea_nil)) hs.rng) ?_
  generalize hws : named p ns = ws at hn l1 l2 l3 ⊢
  have hpw : p.Ok ∧ WsOk p ws := ⟨hp, hn⟩
  show HSs _ _ [.dat (eP p), .dat (eT ns), .dat (eLW ws), .un, .un, .un, .un, .un, .un] _
  refine hs_setLcO (i := 4) rfl sc_reasons_of.nd rfl rfl rfl (sw_true rfl rfl rfl (by decide +kernel))
    (Lc.mk1 (enc := PyData.int) (xs := bleached p ws) (f := fun i => eR (.light i)) (g := fun _ => true) [("item", 3)] (fun i => [.dat (eP p), .dat (eT ns), .dat (eLW ws), .dat (.int i), .un, .un, .un, .un, .un]) (ei_list (ev_call h_bleached (p, ws) hr (by rfl) (ea_cons (vr 0) (ea_cons (vr 2) ea_nil)) hp)) (blkOk_by (N := n_reasons_of) (sc := defScope s_reasons_of) (by decide +kernel)) rfl
      (fun i _ s H C cl fp => eg_name 3 sc_reasons_of.nd) (fun _ _ => rfl) (fun _ _ => rfl) (fun _ _ s H C cl fp => pts_yes)
      (fun i _ _ s H C cl fp => ev_tup (ea_cons ev_str (ea_cons (vr 3) ea_nil)))) fun ds es e he => ?_
  have e2 : es = ((bleached p ws).map Reason.light).map eR := lc_is0 e he
  subst e2
  show HSs _ _ [.dat (eP p), .dat (eT ns), .dat (eLW ws), .un, .own (((bleached p ws).map Reason.light).map eR), .un, .un, .un, .un] _
  refine hs_extend (i := 4) rfl (Or.inl rfl) rfl (es := ((tired p ws).map fun x => Reason.rest (atZ ns x.1) (atZ ns x.2)).map eR) (ev_lcE0 (enc' := eR) (f := fun (x : Int × Int) => Reason.rest (atZ ns x.1) (atZ ns x.2)) (xs := tired p ws) (enc := eII) rfl sc_reasons_of.nd
    (Lc.mk1 [("one", 5), ("other", 6)] (fun x => [.dat (eP p), .dat (eT ns), .dat (eLW ws), .un, .own (((bleached p ws).map Reason.light).map eR), .dat (.int x.1), .dat (.int x.2), .un, .un]) (ei_list (ev_call h_tired (p, ws) hr (by rfl) (ea_cons (vr 0) (ea_cons (vr 2) ea_nil)) hn)) (blkOk_by (N := n_reasons_of) (sc := defScope s_reasons_of) (by decide +kernel)) rfl
      (fun x _ s H C cl fp => eg_tup rfl (.cons (eg_name 5 sc_reasons_of.nd) (.cons (eg_name 6 sc_reasons_of.nd) .nil rfl) rfl)) (fun _ _ => rfl) (fun _ _ => rfl) (fun _ _ s H C cl fp => pts_yes)
      (fun x hx _ s H C cl fp => ev_tup (ea_cons ev_str (ea_cons (ev_ix (vr 1) (vr 5) (at_nat 0 (tired_rng hws hx).1 (tired_rng hws hx).2.1)) (ea_cons (ev_ix (vr 1) (vr 6) (at_nat 0 (tired_rng hws hx).2.2.1 (tired_rng hws hx).2.2.2)) ea_nil)))))) ?_ ?_
  · simp only [List.length_map]
    show _ ≤ 4096
    omega
  rw [← List.map_append]
  show HSs _ _ [.dat (eP p), .dat (eT ns), .dat (eLW ws), .un, .own (((bleached p ws).map Reason.light ++ (tired p ws).map fun x => Reason.rest (atZ ns x.1) (atZ ns x.2)).map eR), .un, .un, .un, .un] _
  refine hs_extend (i := 4) rfl (Or.inl rfl) rfl (es := ((crowded p ws).map fun x => Reason.value x.1 x.2).map eR) (ev_lcE0 (enc' := eR) (f := fun (x : Int × Int) => Reason.value x.1 x.2) (xs := crowded p ws) (enc := eII) rfl sc_reasons_of.nd
    (Lc.mk1 [("house", 7), ("week", 8)] (fun x => [.dat (eP p), .dat (eT ns), .dat (eLW ws), .un, .own (((bleached p ws).map Reason.light ++ (tired p ws).map fun x => Reason.rest (atZ ns x.1) (atZ ns x.2)).map eR), .un, .un, .dat (.int x.1), .dat (.int x.2)]) (ei_list (ev_call h_crowded (p, ws) hr (by rfl) (ea_cons (vr 0) (ea_cons (vr 2) ea_nil)) hpw)) (blkOk_by (N := n_reasons_of) (sc := defScope s_reasons_of) (by decide +kernel)) rfl
      (fun x _ s H C cl fp => eg_tup rfl (.cons (eg_name 7 sc_reasons_of.nd) (.cons (eg_name 8 sc_reasons_of.nd) .nil rfl) rfl)) (fun _ _ => rfl) (fun _ _ => rfl) (fun _ _ s H C cl fp => pts_yes)
      (fun x hx _ s H C cl fp => ev_tup (ea_cons ev_str (ea_cons (vr 7) (ea_cons (vr 8) ea_nil)))))) ?_ ?_
  · simp only [List.length_map, List.length_append]
    show _ ≤ 4096
    omega
  rw [← List.map_append]
  refine hs_freeze 4 rfl (hs_ret (vr 4) ?_)
  show PyData.list ((reasonsOf p ns).map eR) = _
  unfold reasonsOf
  rw [hws]

abbrev s_reasons : Stmt := topS 26
abbrev n_reasons : List Str := ["plan", "some"]
theorem sc_reasons : FnScope n_reasons ["plan", "some"] (defScope s_reasons) := ⟨rfl, rfl, rfl, by decide +kernel, rfl, by decide +kernel, by decide +kernel⟩
theorem d_reasons {f fd} (A : DefAt K mg "reasons" s_reasons ["plan", "some"] f fd) (B : Bt mg) (h_check_some : Def P w K mg base 5 "check_some" ["plan", "some"] c_check_some) (h_reasons_of : Def P w K mg base 3 "reasons_of" ["plan", "some"] c_reasons_of) : Def P w K mg base 6 "reasons" ["plan", "some"] c_reasons := by
  refine def_mk A sc_reasons (fun _ => rfl) fun ⟨p, ns⟩ hps cdv Ar outer s H E hr => ?_
  show HSs _ _ [.dat (eP p), .dat (eT ns)] _
  refine hs_dropN (ev_call h_check_some (p, ns) hr (by rfl) (ea_cons (vr 0) (ea_cons (vr 1) ea_nil)) hps) ?_
  exact hs_ret (ev_tupleL (by rfl) B.tuple (ev_call h_reasons_of (p, ns) hr (by rfl) (ea_cons (vr 0) (ea_cons (vr 1) ea_nil)) hps)) rfl

abbrev st30 (K : PySem.W.Frag) (sa : Addr) (ns : List Int) (t r : Addr) (x : Int) (a c : Plan) (wt : Int) (tl : List SD) : List SD := .mt (scr K sa ns) :: .mt (twn t r) :: .dat (.int x) :: .dat (eP a) :: .dat (eP c) :: .dat (.int wt) :: .dat (eP (tog a c)) :: .dat (.int (a.wishes.length : Nat)) :: tl
theorem en_kds : En (fun xs : List Kd => PyData.list (xs.map eKd)) 1 := en_lst en_kd
abbrev s_law : Stmt := topS 56
abbrev n_law : List Str := ["_law_script", "_law_town", "_law_k", "_law_one", "_law_other", "_law_wait", "_law_plan", "_law_by", "_law_row", "_law_some", "_law_wish", "_law_mine", "_law_at", "_law_loans", "_law_reason", "_law_kinds", "_law_parts"]
theorem sc_law : FnScope n_law ["_law_script"] (defScope s_law) := ⟨rfl, rfl, rfl, by decide +kernel, rfl, by decide +kernel, by decide +kernel⟩
theorem d_law {f fd} (A : DefAt K mg "law" s_law ["_law_script"] f fd) (B : Bt mg) (h_law_begun : DefB P w K mg base 1 "_law_begun") (h_law_little : DefT P w K mg base 2 "_law_little" ["_law_script", "_law_town"] c_law_little) (h_law_draw : DefT P w K mg base 1 "_law_draw" ["_law_script", "_law_town", "_law_many"] c_law_draw) (h_law_together : Def P w K mg base 1 "_law_together" ["_law_one", "_law_other"] c_law_together) (h_law_moved : Def P w K mg base 1 "_law_moved" ["_law_row", "_law_by"] c_law_moved) (h_is_plan : Def P w K mg base 3 "is_plan" ["value"] c_is_plan) (h_clashes : Def P w K mg base 6 "clashes" ["plan"] c_clashes) (h_most_granted : Def P w K mg base 6 "most_granted" ["plan"] c_most_granted) (h_apart : Def P w K mg base 130 "apart" ["plan"] c_apart) (h_count_best : Def P w K mg base 6 "count_best" ["plan"] c_count_best) (h_best : Def P w K mg base 6 "best" ["plan"] c_best) (h_to_refuse : Def P w K mg base 6 "to_refuse" ["plan"] c_to_refuse) (h_journeys : Def P w K mg base 6 "journeys" ["plan", "some", "wait"] c_journeys) (h_role : Def P w K mg base 6 "role" ["plan", "wish"] c_role) (h_loans_of : Def P w K mg base 6 "loans_of" ["plan", "item"] c_loans_of) (h_reasons : Def P w K mg base 6 "reasons" ["plan", "some"] c_reasons) : FnOk P w K mg base CX0 131 f fd ["_law_script"] (spLaw K) := by
  refine law_mk A sc_law fun sa ns hn cdv Ar outer s H E hr => ?_
  show HSs _ _ (.mt (scr K sa ns) :: List.replicate 16 SD.un) _
  refine hs_begun h_law_begun hr (by rfl) sc_law.nd rfl (by first | exact Or.inl rfl | exact Or.inr rfl) fun t r => ?_
  refine hs_forD (xs := rangeD 0 5) (enc := PyData.int) (fun _ => .mt (scr K sa ns) :: .mt (twn t r) :: List.replicate 15 SD.un) PassesOwn.never rfl (ei_range1 (n := 5) (by rfl) B.range ev_int (by decide) (by decide)) rfl (fun i x hx => ?_) (hs_ret ev_bl rfl)
  refine ⟨_, [2], eg_name 2 sc_law.nd, ?_⟩
  refine hs_asgN (E := fun d => ∃ (a c : Plan) (wt : Int), d = .tuple [eP a, eP c, .int wt] ∧ a.Lt ∧ c.Lt ∧ 0 ≤ wt ∧ wt < 15) (evn_tup (ean_cons (A := fun d => ∃ p : Plan, d = eP p ∧ p.Lt) (evn_callT h_law_little 0 1 hr (by rfl) ea_nil (fun ds e => ⟨(), e.symm, trivial, fun d h => h⟩)) (ean_cons (A := fun d => ∃ p : Plan, d = eP p ∧ p.Lt) (evn_callT h_law_little 0 1 hr (by rfl) ea_nil (fun ds e => ⟨(), e.symm, trivial, fun d h => h⟩))
    (ean_cons (evn_drawI h_law_draw 0 1 hr (by rfl) ev_int (by decide) (by decide)) ea_nil))) ?_) fun d ⟨a, c, wt, hd, la, lc, w0, w1⟩ => ?_
  · rintro ds ⟨_, _, e1, ⟨a, rfl, la⟩, _, _, e2, ⟨c, rfl, lc⟩, _, _, e3, ⟨wt, rfl, hw⟩, rfl⟩
    subst e3; subst e2; subst e1
    exact ⟨by show 3 ≤ 4096; decide, a, c, wt, rfl, la, lc, hw⟩
  subst hd
  have tg : Tg a c := la.tg lc
  have oka := tg.oka
  have okc := tg.okc
  have ok := tog_ok tg
  have wa4 := la.w4
  have wc4 := lc.w4
  have oa := la.o2
  have oc := lc.o2
  have ewl := tog_wl (a := a) (c := c)
  have eol := tog_ol (a := a) (c := c)
  refine ⟨.mt (scr K sa ns) :: .mt (twn t r) :: .dat (.int x) :: .dat (eP a) :: .dat (eP c) :: .dat (.int wt) :: List.replicate 11 SD.un, [3, 4, 5], eg_tup rfl (.cons (eg_name 3 sc_law.nd) (.cons (eg_name 4 sc_law.nd) (.cons (eg_name 5 sc_law.nd) .nil rfl) rfl) rfl), ?_⟩
  refine hs_asg (ρ1 := st30 K sa ns t r x a c wt (List.replicate 9 SD.un)) (js := [6, 7]) (ev_tup (ea_cons (ev_call h_law_together (a, c) hr (by rfl) (ea_cons (vr 3) (ea_cons (vr 4) ea_nil)) tg) (ea_cons (ev_eq' (ev_lenT (by rfl) B.len (ev_ix (vr 3) ev_int rfl)) (by rw [List.length_map])) ea_nil))) (eg_tup rfl (.cons (eg_name 6 sc_law.nd) (.cons (eg_name 7 sc_law.nd) .nil rfl) rfl)) ?_
  refine hs_if0 (b := false) (et_nt (et_val (ev_call h_is_plan (eP (tog a c)) hr (by rfl) (ea_cons (vr 6) ea_nil) trivial (by show Eq (PyData.bool (isPlanD (eP (tog a c)))) = Eq (.bool true); rw [isPlan_ok ok])))) (fun z => nomatch z) fun _ => ?_
  have ca16 := clashes_16 oka wa4
  have cc16 := clashes_16 okc wc4
  have ct := clashes_tog tg
  have cl128 : (clashesOf (tog a c)).length ≤ 128 := by rw [ct, List.length_append, List.length_map]; omega
  refine hs_if0 (b := false) (et_eq' (et_ne hr (ev_call h_clashes (tog a c) hr (by rfl) (ea_cons (vr 6) ea_nil) ok) (ev_eq' (db := .tuple ((clashesOf (tog a c)).map eT)) (ev_catT (ev_call h_clashes a hr (by rfl) (ea_cons (vr 3) ea_nil) oka) (ev_tupleL (by rfl) B.tuple (ev_lcE0 (enc' := eT) (f := mv a.wishes.length) (xs := clashesOf c) rfl sc_law.nd
    (Lc.mk1 (enc := eT) [("_law_row", 8)] (fun r' => st30 K sa ns t r x a c wt (.dat (eT r') :: List.replicate 8 SD.un)) (ei_tup (ev_call h_clashes c hr (by rfl) (ea_cons (vr 4) ea_nil) okc)) (blkOk_by (N := n_law) (sc := defScope s_law) (by decide +kernel)) rfl
      (fun x _ s H C cl fp => eg_name 8 sc_law.nd) (fun _ _ => rfl) (fun _ _ => rfl) (fun _ _ s H C cl fp => pts_yes)
      (fun r' _ _ s H C cl fp => ev_call h_law_moved (r', (a.wishes.length : Int)) hr (by rfl) (ea_cons (vr 8) (ea_cons (vr 7) ea_nil)) trivial)))) ?_) ?_) ((en_tup en_T).ok (clashesOf (tog a c))) ((en_tup en_T).ok (clashesOf (tog a c))) rfl) (by rw [(en_tup en_T).eq]; simp)) (fun z => nomatch z) fun _ => ?_
  · rw [List.length_map, List.length_map, List.length_map]; show _ ≤ 4096; omega
  · rw [ct, List.map_append]
  refine hs_if0 (b := false) (et_eq' (et_ne hr (ev_call h_most_granted (tog a c) hr (by rfl) (ea_cons (vr 6) ea_nil) ok) (ev_add (ev_call h_most_granted a hr (by rfl) (ea_cons (vr 3) ea_nil) oka) (ev_call h_most_granted c hr (by rfl) (ea_cons (vr 4) ea_nil) okc)) (en_int.ok _) (en_int.ok _) rfl) (by rw [eqI, most_tog tg]; simp)) (fun z => nomatch z) fun _ => ?_
  refine hs_if0 (b := false) (et_eq' (et_ne hr (ev_call h_apart (tog a c) hr (by rfl) (ea_cons (vr 6) ea_nil) ⟨ok, cl128⟩) (ev_add (ev_call h_apart a hr (by rfl) (ea_cons (vr 3) ea_nil) ⟨oka, by omega⟩) (ev_call h_apart c hr (by rfl) (ea_cons (vr 4) ea_nil) ⟨okc, by omega⟩)) (en_int.ok _) (en_int.ok _) rfl) (by rw [eqI, apart_tog tg]; simp)) (fun z => nomatch z) fun _ => ?_
  have lla := largest_le oka
  refine hs_if0 (b := false) (et_eq' (et_ne hr (ev_call h_count_best (tog a c) hr (by rfl) (ea_cons (vr 6) ea_nil) ok) (ev_mul (ev_call h_count_best a hr (by rfl) (ea_cons (vr 3) ea_nil) oka) (ev_call h_count_best c hr (by rfl) (ea_cons (vr 4) ea_nil) okc) (Or.inl ⟨by omega, by omega⟩)) (en_int.ok _) (en_int.ok _) rfl) (by rw [eqI, count_tog tg]; simp)) (fun z => nomatch z) fun _ => ?_
  have ba := mem_largest.mp (best_mem oka)
  have bc := mem_largest.mp (best_mem okc)
  have bt := best_tog tg
  have rt := refuse_tog tg
  have hla := ba.1.1.len
  have hlc := bc.1.1.len
  have ra := refuse_len oka
  have rc := refuse_len okc
  refine hs_set (i := 9) (d := eT (join a (best a) (best c))) sc_law.nd rfl (by first | exact Or.inl rfl | exact Or.inr rfl) rfl (ev_eq' (ev_catT (ev_call h_best a hr (by rfl) (ea_cons (vr 3) ea_nil) oka) (ev_call h_law_moved (best c, (a.wishes.length : Int)) hr (by rfl) (ea_cons (ev_call h_best c hr (by rfl) (ea_cons (vr 4) ea_nil) okc) (ea_cons (vr 7) ea_nil)) trivial) ?_) ?_) ?_
  · rw [List.length_map, List.length_map]; show (best a).length + (mv _ (best c)).length ≤ 4096; rw [mv_len]; omega
  · rw [← List.map_append]; rfl
  show HSs _ _ (st30 K sa ns t r x a c wt (.un :: .dat (eT (join a (best a) (best c))) :: List.replicate 7 SD.un)) _
  refine hs_if0 (b := false) (et_orF (et_eq' (et_ne hr (ev_call h_best (tog a c) hr (by rfl) (ea_cons (vr 6) ea_nil) ok) (vr 9) (en_T.ok (best (tog a c))) (en_T.ok _) rfl) (by rw [bt, en_T.eq]; simp))
    (ew_or1 (et_eq' (et_ne hr (ev_call h_to_refuse (tog a c) hr (by rfl) (ea_cons (vr 6) ea_nil) ok) (ev_eq' (db := eT (toRefuse (tog a c))) (ev_catT (ev_call h_to_refuse a hr (by rfl) (ea_cons (vr 3) ea_nil) oka) (ev_call h_law_moved (toRefuse c, (a.wishes.length : Int)) hr (by rfl) (ea_cons (ev_call h_to_refuse c hr (by rfl) (ea_cons (vr 4) ea_nil) okc) (ea_cons (vr 7) ea_nil)) trivial) ?_) ?_) (en_T.ok (toRefuse (tog a c))) (en_T.ok (toRefuse (tog a c))) rfl) (by rw [en_T.eq]; simp)))) (fun z => nomatch z) fun _ => ?_
  · rw [List.length_map, List.length_map]; show (toRefuse a).length + (mv _ (toRefuse c)).length ≤ 4096; rw [mv_len]; omega
  · rw [← List.map_append, rt]; rfl
  have wok : 0 ≤ wt ∧ wt ≤ 60 := by omega
  have bs : SomeOk (tog a c) (join a (best a) (best c)) := join_some ba.1.1 bc.1.1
  have bg : good (tog a c) (join a (best a) (best c)) = true := by rw [join_good tg ba.1.1 bc.1.1, ba.1.2, bc.1.2]; rfl
  refine hs_if0 (b := false) (et_eq' (et_ne hr (ev_call h_journeys (tog a c, join a (best a) (best c), wt) hr (by rfl) (ea_cons (vr 6) (ea_cons (vr 9) (ea_cons (vr 5) ea_nil))) ⟨ok, bs, wok, bg⟩) (ev_add (ev_call h_journeys (a, best a, wt) hr (by rfl) (ea_cons (vr 3) (ea_cons (ev_call h_best a hr (by rfl) (ea_cons (vr 3) ea_nil) oka) (ea_cons (vr 5) ea_nil))) ⟨oka, ba.1.1, wok, ba.1.2⟩) (ev_call h_journeys (c, best c, wt) hr (by rfl) (ea_cons (vr 4) (ea_cons (ev_call h_best c hr (by rfl) (ea_cons (vr 4) ea_nil) okc) (ea_cons (vr 5) ea_nil))) ⟨okc, bc.1.1, wok, bc.1.2⟩)) (en_int.ok _) (en_int.ok _) rfl) (by rw [eqI]; show (!decide (journeysOf (tog a c) (join a (best a) (best c)) wt = journeysOf a (best a) wt + journeysOf c (best c) wt)) = false; rw [journeys_tog tg ba.1.1 bc.1.1]; simp)) (fun z => nomatch z) fun _ => ?_
  have callRo : ∀ {p : Plan} {y : Int}, c_role.res (p, y) = Eq (eRo (roleR p y)) := fun {p y} => by show Eq (PyData.str (roleOf p y)) = _; rw [role_str]
  have rol := roles_tog tg
  refine hs_set (i := 11) (d := .list (((rangeD 0 (tog a c).wishes.length).map (roleR (tog a c))).map eRo)) sc_law.nd rfl (by first | exact Or.inl rfl | exact Or.inr rfl) rfl (ev_eq' (ev_catL (ev_lcE0 (enc' := eRo) (f := roleR a) (xs := rangeD 0 a.wishes.length) rfl sc_law.nd
    (Lc.mk1 (enc := PyData.int) [("_law_wish", 10)] (fun y => st30 K sa ns t r x a c wt (.un :: .dat (eT (join a (best a) (best c))) :: .dat (.int y) :: List.replicate 6 SD.un)) (ei_eq (ei_range1 (n := (a.wishes.length : Int)) (by rfl) B.range (vr 7) (by omega) (by omega)) (by simp)) (blkOk_by (N := n_law) (sc := defScope s_law) (by decide +kernel)) rfl
      (fun x _ s H C cl fp => eg_name 10 sc_law.nd) (fun _ _ => rfl) (fun _ _ => rfl) (fun _ _ s H C cl fp => pts_yes)
      (fun y hy _ s H C cl fp => ev_call h_role (a, y) hr (by rfl) (ea_cons (vr 3) (ea_cons (vr 10) ea_nil)) ⟨oka, (rangeD_mem.mp hy).1, by have := (rangeD_mem.mp hy).2; show y < (a.wishes.length : Int); omega⟩ callRo)))
    (ev_lcE0 (enc' := eRo) (f := roleR c) (xs := rangeD 0 c.wishes.length) rfl sc_law.nd
    (Lc.mk1 (enc := PyData.int) [("_law_wish", 10)] (fun y => st30 K sa ns t r x a c wt (.un :: .dat (eT (join a (best a) (best c))) :: .dat (.int y) :: List.replicate 6 SD.un)) (ei_eq (ei_range1 (n := (c.wishes.length : Int)) (by rfl) B.range (ev_eq' (ev_lenT (by rfl) B.len (ev_ix (vr 4) ev_int rfl)) (by rw [List.length_map])) (by omega) (by omega)) (by simp)) (blkOk_by (N := n_law) (sc := defScope s_law) (by decide +kernel)) rfl
      (fun x _ s H C cl fp => eg_name 10 sc_law.nd) (fun _ _ => rfl) (fun _ _ => rfl) (fun _ _ s H C cl fp => pts_yes)
      (fun y hy _ s H C cl fp => ev_call h_role (c, y) hr (by rfl) (ea_cons (vr 4) (ea_cons (vr 10) ea_nil)) ⟨okc, (rangeD_mem.mp hy).1, by have := (rangeD_mem.mp hy).2; show y < (c.wishes.length : Int); omega⟩ callRo))) ?_) ?_) ?_
  · simp only [List.length_map, rangeD_len]; show _ ≤ 4096; omega
  · rw [← List.map_append, ← rol]
  generalize hR : (rangeD 0 (tog a c).wishes.length).map (roleR (tog a c)) = R
  show HSs _ _ (st30 K sa ns t r x a c wt (.un :: .dat (eT (join a (best a) (best c))) :: .un :: .dat (.list (R.map eRo)) :: List.replicate 5 SD.un)) _
  refine hs_if0 (b := false) (et_eq' (et_ne hr (ev_eq' (db := .list (R.map eRo)) (ev_lcE0 (enc' := eRo) (f := roleR (tog a c)) (xs := rangeD 0 (tog a c).wishes.length) rfl sc_law.nd
    (Lc.mk1 (enc := PyData.int) [("_law_wish", 10)] (fun y => st30 K sa ns t r x a c wt (.un :: .dat (eT (join a (best a) (best c))) :: .dat (.int y) :: .dat (.list (R.map eRo)) :: List.replicate 5 SD.un)) (ei_eq (ei_range1 (n := ((tog a c).wishes.length : Int)) (by rfl) B.range (ev_eq' (ev_lenT (by rfl) B.len (ev_ix (vr 6) ev_int rfl)) (by rw [List.length_map])) (by omega) (by omega)) (by simp)) (blkOk_by (N := n_law) (sc := defScope s_law) (by decide +kernel)) rfl
      (fun x _ s H C cl fp => eg_name 10 sc_law.nd) (fun _ _ => rfl) (fun _ _ => rfl) (fun _ _ s H C cl fp => pts_yes)
      (fun y hy _ s H C cl fp => ev_call h_role (tog a c, y) hr (by rfl) (ea_cons (vr 6) (ea_cons (vr 10) ea_nil)) ⟨ok, (rangeD_mem.mp hy).1, by have := (rangeD_mem.mp hy).2; show y < ((tog a c).wishes.length : Int); omega⟩ callRo))) (by rw [hR])) (vr 11) ((en_lst en_ro).ok R) ((en_lst en_ro).ok R) rfl) (by rw [(en_lst en_ro).eq]; simp)) (fun z => nomatch z) fun _ => ?_
  refine hs_wipe [9, 11] ?_
  show HSs _ _ (st30 K sa ns t r x a c wt (List.replicate 9 SD.un)) _
  have lot := loans_tog tg
  refine hs_set (i := 13) (d := .list (((rangeD 0 (tog a c).objects.length).map fun i => (loansOf (tog a c) i : Int)).map PyData.int)) sc_law.nd rfl (by first | exact Or.inl rfl | exact Or.inr rfl) rfl (ev_eq' (ev_catL (ev_lcE0 (enc' := PyData.int) (f := fun i => (loansOf a i : Int)) (xs := rangeD 0 a.objects.length) rfl sc_law.nd
    (Lc.mk1 (enc := PyData.int) [("_law_at", 12)] (fun y => st30 K sa ns t r x a c wt (.un :: .un :: .un :: .un :: .dat (.int y) :: List.replicate 4 SD.un)) (ei_eq (ei_range1 (n := (a.objects.length : Int)) (by rfl) B.range (ev_eq' (ev_lenT (by rfl) B.len (ev_ix (vr 3) ev_int rfl)) (by rw [List.length_map])) (by omega) (by omega)) (by simp)) (blkOk_by (N := n_law) (sc := defScope s_law) (by decide +kernel)) rfl
      (fun x _ s H C cl fp => eg_name 12 sc_law.nd) (fun _ _ => rfl) (fun _ _ => rfl) (fun _ _ s H C cl fp => pts_yes)
      (fun y hy _ s H C cl fp => ev_call h_loans_of (a, y) hr (by rfl) (ea_cons (vr 3) (ea_cons (vr 12) ea_nil)) ⟨oka, (rangeD_mem.mp hy).1, by have := (rangeD_mem.mp hy).2; show y < (a.objects.length : Int); omega⟩)))
    (ev_lcE0 (enc' := PyData.int) (f := fun i => (loansOf c i : Int)) (xs := rangeD 0 c.objects.length) rfl sc_law.nd
    (Lc.mk1 (enc := PyData.int) [("_law_at", 12)] (fun y => st30 K sa ns t r x a c wt (.un :: .un :: .un :: .un :: .dat (.int y) :: List.replicate 4 SD.un)) (ei_eq (ei_range1 (n := (c.objects.length : Int)) (by rfl) B.range (ev_eq' (ev_lenT (by rfl) B.len (ev_ix (vr 4) ev_int rfl)) (by rw [List.length_map])) (by omega) (by omega)) (by simp)) (blkOk_by (N := n_law) (sc := defScope s_law) (by decide +kernel)) rfl
      (fun x _ s H C cl fp => eg_name 12 sc_law.nd) (fun _ _ => rfl) (fun _ _ => rfl) (fun _ _ s H C cl fp => pts_yes)
      (fun y hy _ s H C cl fp => ev_call h_loans_of (c, y) hr (by rfl) (ea_cons (vr 4) (ea_cons (vr 12) ea_nil)) ⟨okc, (rangeD_mem.mp hy).1, by have := (rangeD_mem.mp hy).2; show y < (c.objects.length : Int); omega⟩))) ?_) ?_) ?_
  · simp only [List.length_map, rangeD_len]; show _ ≤ 4096; omega
  · rw [← List.map_append, ← lot]
  generalize hR : (rangeD 0 (tog a c).objects.length).map (fun i => (loansOf (tog a c) i : Int)) = R
  show HSs _ _ (st30 K sa ns t r x a c wt (.un :: .un :: .un :: .un :: .un :: .dat (.list (R.map PyData.int)) :: List.replicate 3 SD.un)) _
  refine hs_if0 (b := false) (et_eq' (et_ne hr (ev_eq' (db := .list (R.map PyData.int)) (ev_lcE0 (enc' := PyData.int) (f := fun i => (loansOf (tog a c) i : Int)) (xs := rangeD 0 (tog a c).objects.length) rfl sc_law.nd
    (Lc.mk1 (enc := PyData.int) [("_law_at", 12)] (fun y => st30 K sa ns t r x a c wt (.un :: .un :: .un :: .un :: .dat (.int y) :: .dat (.list (R.map PyData.int)) :: List.replicate 3 SD.un)) (ei_eq (ei_range1 (n := ((tog a c).objects.length : Int)) (by rfl) B.range (ev_eq' (ev_lenT (by rfl) B.len (ev_ix (vr 6) ev_int rfl)) (by rw [List.length_map])) (by omega) (by omega)) (by simp)) (blkOk_by (N := n_law) (sc := defScope s_law) (by decide +kernel)) rfl
      (fun x _ s H C cl fp => eg_name 12 sc_law.nd) (fun _ _ => rfl) (fun _ _ => rfl) (fun _ _ s H C cl fp => pts_yes)
      (fun y hy _ s H C cl fp => ev_call h_loans_of (tog a c, y) hr (by rfl) (ea_cons (vr 6) (ea_cons (vr 12) ea_nil)) ⟨ok, (rangeD_mem.mp hy).1, by have := (rangeD_mem.mp hy).2; show y < ((tog a c).objects.length : Int); omega⟩))) (by rw [hR])) (vr 13) ((en_lst en_int).ok R) ((en_lst en_int).ok R) rfl) (by rw [(en_lst en_int).eq]; simp)) (fun z => nomatch z) fun _ => ?_
  refine hs_wipe [13] ?_
  show HSs _ _ (st30 K sa ns t r x a c wt (List.replicate 9 SD.un)) _
  have sT := allW_some (tog a c)
  have sA := allW_some a
  have sC := allW_some c
  have kp := kinds_tog tg sA sC
  rw [← all_join tg] at kp
  have rl : ∀ {p : Plan} {s : List Int}, p.Ok → SomeOk p s → (reasonsOf p s).length ≤ 1000 := fun {p s} hp hs => by
    unfold reasonsOf
    have h1 := bleached_len p (named p s) hp
    have h2 := tired_len p (named p s) (hs.wsok hp).len
    have h3 := crowded_len p (named p s) hp.h4
    simp only [List.length_append, List.length_map]
    omega
  have rlA := rl oka sA
  have rlC := rl okc sC
  refine hs_setLc (i := 15) rfl sc_law.nd rfl rfl rfl (sw_true rfl rfl rfl (by decide +kernel))
    (Lc.mk1 (enc := eR) (xs := reasonsOf (tog a c) (allW (tog a c))) (f := fun r' => eKd (kd r')) (g := fun _ => true) [("_law_reason", 14)] (fun r' => st30 K sa ns t r x a c wt (.un :: .un :: .un :: .un :: .un :: .un :: .dat (eR r') :: List.replicate 2 SD.un)) (ei_tup (ev_call h_reasons (tog a c, allW (tog a c)) hr (by rfl) (ea_cons (vr 6) (ea_cons (ev_tupR1 (n := (tog a c).wishes.length) rfl (by rfl) B.tuple (by rfl) B.range (ev_eq' (ev_lenT (by rfl) B.len (ev_ix (vr 6) ev_int rfl)) (by rw [List.length_map])) (by omega)) ea_nil)) ⟨ok, sT⟩)) (blkOk_by (N := n_law) (sc := defScope s_law) (by decide +kernel)) rfl
      (fun x _ s H C cl fp => eg_name 14 sc_law.nd) (fun _ _ => rfl) (fun _ _ => rfl) (fun _ _ s H C cl fp => pts_yes)
      (fun r' _ _ s' H C cl fp => ev_eq' (ev_ix (ds := eRl r') (ev_eq' (vr 14) (eR_l r')) ev_int (eRl_0 r')) (by rw [kd_str]))) fun ds es e he => ?_
  have e2 : es = (kindsOf (tog a c) (allW (tog a c))).map eKd := by
    rw [lc_is0 (enc' := eKd) e he]; rfl
  subst e2
  generalize kindsOf (tog a c) (allW (tog a c)) = K1 at kp
  show HSs _ _ (st30 K sa ns t r x a c wt (.un :: .un :: .un :: .un :: .un :: .un :: .un :: .dat (.list (K1.map eKd)) :: List.replicate 1 SD.un)) _
  refine hs_setLc (i := 16) rfl sc_law.nd rfl rfl rfl (sw_true rfl rfl rfl (by decide +kernel))
    (Lc.mk1 (enc := eR) (xs := reasonsOf a (allW a) ++ reasonsOf c (allW c)) (f := fun r' => eKd (kd r')) (g := fun _ => true) [("_law_reason", 14)] (fun r' => st30 K sa ns t r x a c wt (.un :: .un :: .un :: .un :: .un :: .un :: .dat (eR r') :: .dat (.list (K1.map eKd)) :: List.replicate 1 SD.un)) (ei_tup (ev_eq' (ev_catT (ev_call h_reasons (a, allW a) hr (by rfl) (ea_cons (vr 3) (ea_cons (ev_tupR1 (n := a.wishes.length) rfl (by rfl) B.tuple (by rfl) B.range (vr 7) (by omega)) ea_nil)) ⟨oka, sA⟩) (ev_call h_reasons (c, allW c) hr (by rfl) (ea_cons (vr 4) (ea_cons (ev_tupR1 (n := c.wishes.length) rfl (by rfl) B.tuple (by rfl) B.range (ev_eq' (ev_lenT (by rfl) B.len (ev_ix (vr 4) ev_int rfl)) (by rw [List.length_map])) (by omega)) ea_nil)) ⟨okc, sC⟩) (by rw [List.length_map, List.length_map]; show (reasonsOf a (allW a)).length + (reasonsOf c (allW c)).length ≤ 4096; omega)) (by rw [← List.map_append]))) (blkOk_by (N := n_law) (sc := defScope s_law) (by decide +kernel)) rfl
      (fun x _ s H C cl fp => eg_name 14 sc_law.nd) (fun _ _ => rfl) (fun _ _ => rfl) (fun _ _ s H C cl fp => pts_yes)
      (fun r' _ _ s' H C cl fp => ev_eq' (ev_ix (ds := eRl r') (ev_eq' (vr 14) (eR_l r')) ev_int (eRl_0 r')) (by rw [kd_str]))) fun ds es e he => ?_
  have e2 : es = (kindsOf a (allW a) ++ kindsOf c (allW c)).map eKd := by
    rw [lc_is0 (enc' := eKd) e he, List.map_append (f := fun r' => kd r')]; rfl
  subst e2
  generalize kindsOf a (allW a) ++ kindsOf c (allW c) = K2 at kp
  show HSs _ _ (st30 K sa ns t r x a c wt (.un :: .un :: .un :: .un :: .un :: .un :: .un :: .dat (.list (K1.map eKd)) :: .dat (.list (K2.map eKd)) :: [])) _
  obtain ⟨m, hm⟩ : ∃ m : List Kd, sortD (K1.map eKd) = m.map eKd := ⟨_, sort_enc eKd (fun x y => decide (kdN x < kdN y)) kd_lt K1⟩
  have hm2 : sortD (K2.map eKd) = m.map eKd := by rw [← sort_kd kp]; exact hm
  exact hs_if0 (b := false) (et_eq' (et_ne hr (ev_eq' (ev_sortedL hr (by rfl) B.sorted (vr 15) (srt_kd K1)) (congrArg PyData.list hm)) (ev_eq' (ev_sortedL hr (by rfl) B.sorted (vr 16) (srt_kd K2)) (congrArg PyData.list hm2)) (en_kds.ok m) (en_kds.ok m) rfl) (by rw [en_kds.eq]; simp)) (fun z => nomatch z) fun _ => hs_nilW [2, 3, 4, 5, 6, 7, 15, 16] rfl

end
theorem all_mk {l : PySem.W.OpenLaw} {w : World} {K : PySem.W.Frag} {h : Heap} {mg : Str → Option Value} {fa f0 f1 f2 f3 f4 f5 f6 f7 f8 f9 f10 f11 f12 f13 f14 f15 f16 f17 f18 f19 f20 f21 f22 f23 f24 f25 f26 f27 f28 f29 f30 f31 f32 f33 f34 f35 f36 f37 f38 f39 f40 f41 f42 f43 f44 f45 : Addr} (X : K.In h) (G : h.Ns mainGlobals mg) (hfa : mg "law" = some (.ref fa))
    {od0 an0 od1 an1 od2 an2 od3 an3 od4 an4 od5 an5 od6 an6 od7 an7 od8 an8 od9 an9 od10 an10 od11 an11 od12 an12 od13 an13 od14 an14 od15 an15 od16 an16 od17 an17 od18 an18 od19 an19 od20 an20 od21 an21 od22 an22 od23 an23 od24 an24 od25 an25 od26 an26 od27 an27 od28 an28 od29 an29 od30 an30 od31 an31 od32 an32 od33 an33 od34 an34 od35 an35 od36 an36 od37 an37 od38 an38 od39 an39 od40 an40 od41 an41 od42 an42 od43 an43 od44 an44 od45 an45 : Option Addr} {sl0 sl1 sl2 sl3 sl4 sl5 sl6 sl7 sl8 sl9 sl10 sl11 sl12 sl13 sl14 sl15 sl16 sl17 sl18 sl19 sl20 sl21 sl22 sl23 sl24 sl25 sl26 sl27 sl28 sl29 sl30 sl31 sl32 sl33 sl34 sl35 sl36 sl37 sl38 sl39 sl40 sl41 sl42 sl43 sl44 sl45 : Array (Option Value)} {oc0 kV0 dc0 pm0 cd0 ct0 oc1 kV1 dc1 pm1 cd1 ct1 oc2 kV2 dc2 pm2 cd2 ct2 oc3 kV3 dc3 pm3 cd3 ct3 oc4 kV4 dc4 pm4 cd4 ct4 oc5 kV5 dc5 pm5 cd5 ct5 oc6 kV6 dc6 pm6 cd6 ct6 oc7 kV7 dc7 pm7 cd7 ct7 oc8 kV8 dc8 pm8 cd8 ct8 oc9 kV9 dc9 pm9 cd9 ct9 oc10 kV10 dc10 pm10 cd10 ct10 oc11 kV11 dc11 pm11 cd11 ct11 oc12 kV12 dc12 pm12 cd12 ct12 oc13 kV13 dc13 pm13 cd13 ct13 oc14 kV14 dc14 pm14 cd14 ct14 oc15 kV15 dc15 pm15 cd15 ct15 oc16 kV16 dc16 pm16 cd16 ct16 oc17 kV17 dc17 pm17 cd17 ct17 oc18 kV18 dc18 pm18 cd18 ct18 oc19 kV19 dc19 pm19 cd19 ct19 oc20 kV20 dc20 pm20 cd20 ct20 oc21 kV21 dc21 pm21 cd21 ct21 oc22 kV22 dc22 pm22 cd22 ct22 oc23 kV23 dc23 pm23 cd23 ct23 oc24 kV24 dc24 pm24 cd24 ct24 oc25 kV25 dc25 pm25 cd25 ct25 oc26 kV26 dc26 pm26 cd26 ct26 oc27 kV27 dc27 pm27 cd27 ct27 oc28 kV28 dc28 pm28 cd28 ct28 oc29 kV29 dc29 pm29 cd29 ct29 oc30 kV30 dc30 pm30 cd30 ct30 oc31 kV31 dc31 pm31 cd31 ct31 oc32 kV32 dc32 pm32 cd32 ct32 oc33 kV33 dc33 pm33 cd33 ct33 oc34 kV34 dc34 pm34 cd34 ct34 oc35 kV35 dc35 pm35 cd35 ct35 oc36 kV36 dc36 pm36 cd36 ct36 oc37 kV37 dc37 pm37 cd37 ct37 oc38 kV38 dc38 pm38 cd38 ct38 oc39 kV39 dc39 pm39 cd39 ct39 oc40 kV40 dc40 pm40 cd40 ct40 oc41 kV41 dc41 pm41 cd41 ct41 oc42 kV42 dc42 pm42 cd42 ct42 oc43 kV43 dc43 pm43 cd43 ct43 oc44 kV44 dc44 pm44 cd44 ct44 oc45 kV45 dc45 pm45 cd45 ct45 : Value}
    {t_LAST : _}
    (a0 : PySem.W.nsIn K mainGlobals "_law_begun" = some (some (.ref f0))) (l0 : K.lookup f0 = some ⟨oc0, od0, .func (PySem.W.fnOf "_law_begun" "_law_begun" (defArgs s_law_begun) (defBody s_law_begun) (defScope s_law_begun) .none kV0 dc0 pm0 an0 cd0 ct0), sl0⟩) (c0 : PySem.W.codeIn K cd0 "_law_begun" = true) (k0 : PySem.W.keepIn K (.ref f0) = true)
    (a1 : PySem.W.nsIn K mainGlobals "_law_draw" = some (some (.ref f1))) (l1 : K.lookup f1 = some ⟨oc1, od1, .func (PySem.W.fnOf "_law_draw" "_law_draw" (defArgs s_law_draw) (defBody s_law_draw) (defScope s_law_draw) .none kV1 dc1 pm1 an1 cd1 ct1), sl1⟩) (c1 : PySem.W.codeIn K cd1 "_law_draw" = true) (k1 : PySem.W.keepIn K (.ref f1) = true)
    (a2 : PySem.W.nsIn K mainGlobals "_law_little" = some (some (.ref f2))) (l2 : K.lookup f2 = some ⟨oc2, od2, .func (PySem.W.fnOf "_law_little" "_law_little" (defArgs s_law_little) (defBody s_law_little) (defScope s_law_little) .none kV2 dc2 pm2 an2 cd2 ct2), sl2⟩) (c2 : PySem.W.codeIn K cd2 "_law_little" = true) (k2 : PySem.W.keepIn K (.ref f2) = true)
    (a3 : PySem.W.nsIn K mainGlobals "_law_together" = some (some (.ref f3))) (l3 : K.lookup f3 = some ⟨oc3, od3, .func (PySem.W.fnOf "_law_together" "_law_together" (defArgs s_law_together) (defBody s_law_together) (defScope s_law_together) .none kV3 dc3 pm3 an3 cd3 ct3), sl3⟩) (c3 : PySem.W.codeIn K cd3 "_law_together" = true) (k3 : PySem.W.keepIn K (.ref f3) = true)
    (a4 : PySem.W.nsIn K mainGlobals "_law_moved" = some (some (.ref f4))) (l4 : K.lookup f4 = some ⟨oc4, od4, .func (PySem.W.fnOf "_law_moved" "_law_moved" (defArgs s_law_moved) (defBody s_law_moved) (defScope s_law_moved) .none kV4 dc4 pm4 an4 cd4 ct4), sl4⟩) (c4 : PySem.W.codeIn K cd4 "_law_moved" = true) (k4 : PySem.W.keepIn K (.ref f4) = true)
    (a5 : PySem.W.nsIn K mainGlobals "is_between" = some (some (.ref f5))) (l5 : K.lookup f5 = some ⟨oc5, od5, .func (PySem.W.fnOf "is_between" "is_between" (defArgs s_is_between) (defBody s_is_between) (defScope s_is_between) .none kV5 dc5 pm5 an5 cd5 ct5), sl5⟩) (c5 : PySem.W.codeIn K cd5 "is_between" = true) (k5 : PySem.W.keepIn K (.ref f5) = true)
    (a6 : PySem.W.nsIn K mainGlobals "is_object" = some (some (.ref f6))) (l6 : K.lookup f6 = some ⟨oc6, od6, .func (PySem.W.fnOf "is_object" "is_object" (defArgs s_is_object) (defBody s_is_object) (defScope s_is_object) .none kV6 dc6 pm6 an6 cd6 ct6), sl6⟩) (c6 : PySem.W.codeIn K cd6 "is_object" = true) (k6 : PySem.W.keepIn K (.ref f6) = true)
    (a7 : PySem.W.nsIn K mainGlobals "is_wish" = some (some (.ref f7))) (l7 : K.lookup f7 = some ⟨oc7, od7, .func (PySem.W.fnOf "is_wish" "is_wish" (defArgs s_is_wish) (defBody s_is_wish) (defScope s_is_wish) .none kV7 dc7 pm7 an7 cd7 ct7), sl7⟩) (c7 : PySem.W.codeIn K cd7 "is_wish" = true) (k7 : PySem.W.keepIn K (.ref f7) = true)
    (a8 : PySem.W.nsIn K mainGlobals "is_plan" = some (some (.ref f8))) (l8 : K.lookup f8 = some ⟨oc8, od8, .func (PySem.W.fnOf "is_plan" "is_plan" (defArgs s_is_plan) (defBody s_is_plan) (defScope s_is_plan) .none kV8 dc8 pm8 an8 cd8 ct8), sl8⟩) (c8 : PySem.W.codeIn K cd8 "is_plan" = true) (k8 : PySem.W.keepIn K (.ref f8) = true)
    (a9 : PySem.W.nsIn K mainGlobals "check_plan" = some (some (.ref f9))) (l9 : K.lookup f9 = some ⟨oc9, od9, .func (PySem.W.fnOf "check_plan" "check_plan" (defArgs s_check_plan) (defBody s_check_plan) (defScope s_check_plan) .none kV9 dc9 pm9 an9 cd9 ct9), sl9⟩) (c9 : PySem.W.codeIn K cd9 "check_plan" = true) (k9 : PySem.W.keepIn K (.ref f9) = true)
    (a10 : PySem.W.nsIn K mainGlobals "subsets_of" = some (some (.ref f10))) (l10 : K.lookup f10 = some ⟨oc10, od10, .func (PySem.W.fnOf "subsets_of" "subsets_of" (defArgs s_subsets_of) (defBody s_subsets_of) (defScope s_subsets_of) .none kV10 dc10 pm10 an10 cd10 ct10), sl10⟩) (c10 : PySem.W.codeIn K cd10 "subsets_of" = true) (k10 : PySem.W.keepIn K (.ref f10) = true)
    (a11 : PySem.W.nsIn K mainGlobals "do_rest" = some (some (.ref f11))) (l11 : K.lookup f11 = some ⟨oc11, od11, .func (PySem.W.fnOf "do_rest" "do_rest" (defArgs s_do_rest) (defBody s_do_rest) (defScope s_do_rest) .none kV11 dc11 pm11 an11 cd11 ct11), sl11⟩) (c11 : PySem.W.codeIn K cd11 "do_rest" = true) (k11 : PySem.W.keepIn K (.ref f11) = true)
    (a12 : PySem.W.nsIn K mainGlobals "tired" = some (some (.ref f12))) (l12 : K.lookup f12 = some ⟨oc12, od12, .func (PySem.W.fnOf "tired" "tired" (defArgs s_tired) (defBody s_tired) (defScope s_tired) .none kV12 dc12 pm12 an12 cd12 ct12), sl12⟩) (c12 : PySem.W.codeIn K cd12 "tired" = true) (k12 : PySem.W.keepIn K (.ref f12) = true)
    (a13 : PySem.W.nsIn K mainGlobals "weeks_of" = some (some (.ref f13))) (l13 : K.lookup f13 = some ⟨oc13, od13, .func (PySem.W.fnOf "weeks_of" "weeks_of" (defArgs s_weeks_of) (defBody s_weeks_of) (defScope s_weeks_of) .none kV13 dc13 pm13 an13 cd13 ct13), sl13⟩) (c13 : PySem.W.codeIn K cd13 "weeks_of" = true) (k13 : PySem.W.keepIn K (.ref f13) = true)
    (a14 : PySem.W.nsIn K mainGlobals "bleached" = some (some (.ref f14))) (l14 : K.lookup f14 = some ⟨oc14, od14, .func (PySem.W.fnOf "bleached" "bleached" (defArgs s_bleached) (defBody s_bleached) (defScope s_bleached) .none kV14 dc14 pm14 an14 cd14 ct14), sl14⟩) (c14 : PySem.W.codeIn K cd14 "bleached" = true) (k14 : PySem.W.keepIn K (.ref f14) = true)
    (a15 : PySem.W.nsIn K mainGlobals "value_at" = some (some (.ref f15))) (l15 : K.lookup f15 = some ⟨oc15, od15, .func (PySem.W.fnOf "value_at" "value_at" (defArgs s_value_at) (defBody s_value_at) (defScope s_value_at) .none kV15 dc15 pm15 an15 cd15 ct15), sl15⟩) (c15 : PySem.W.codeIn K cd15 "value_at" = true) (k15 : PySem.W.keepIn K (.ref f15) = true)
    (a16 : PySem.W.nsIn K mainGlobals "are_good" = some (some (.ref f16))) (l16 : K.lookup f16 = some ⟨oc16, od16, .func (PySem.W.fnOf "are_good" "are_good" (defArgs s_are_good) (defBody s_are_good) (defScope s_are_good) .none kV16 dc16 pm16 an16 cd16 ct16), sl16⟩) (c16 : PySem.W.codeIn K cd16 "are_good" = true) (k16 : PySem.W.keepIn K (.ref f16) = true)
    (a17 : PySem.W.nsIn K mainGlobals "named" = some (some (.ref f17))) (l17 : K.lookup f17 = some ⟨oc17, od17, .func (PySem.W.fnOf "named" "named" (defArgs s_named) (defBody s_named) (defScope s_named) .none kV17 dc17 pm17 an17 cd17 ct17), sl17⟩) (c17 : PySem.W.codeIn K cd17 "named" = true) (k17 : PySem.W.keepIn K (.ref f17) = true)
    (a18 : PySem.W.nsIn K mainGlobals "is_clash_of" = some (some (.ref f18))) (l18 : K.lookup f18 = some ⟨oc18, od18, .func (PySem.W.fnOf "is_clash_of" "is_clash_of" (defArgs s_is_clash_of) (defBody s_is_clash_of) (defScope s_is_clash_of) .none kV18 dc18 pm18 an18 cd18 ct18), sl18⟩) (c18 : PySem.W.codeIn K cd18 "is_clash_of" = true) (k18 : PySem.W.keepIn K (.ref f18) = true)
    (a19 : PySem.W.nsIn K mainGlobals "clashes_of" = some (some (.ref f19))) (l19 : K.lookup f19 = some ⟨oc19, od19, .func (PySem.W.fnOf "clashes_of" "clashes_of" (defArgs s_clashes_of) (defBody s_clashes_of) (defScope s_clashes_of) .none kV19 dc19 pm19 an19 cd19 ct19), sl19⟩) (c19 : PySem.W.codeIn K cd19 "clashes_of" = true) (k19 : PySem.W.keepIn K (.ref f19) = true)
    (a20 : PySem.W.nsIn K mainGlobals "clashes" = some (some (.ref f20))) (l20 : K.lookup f20 = some ⟨oc20, od20, .func (PySem.W.fnOf "clashes" "clashes" (defArgs s_clashes) (defBody s_clashes) (defScope s_clashes) .none kV20 dc20 pm20 an20 cd20 ct20), sl20⟩) (c20 : PySem.W.codeIn K cd20 "clashes" = true) (k20 : PySem.W.keepIn K (.ref f20) = true)
    (a21 : PySem.W.nsIn K mainGlobals "good_ones" = some (some (.ref f21))) (l21 : K.lookup f21 = some ⟨oc21, od21, .func (PySem.W.fnOf "good_ones" "good_ones" (defArgs s_good_ones) (defBody s_good_ones) (defScope s_good_ones) .none kV21 dc21 pm21 an21 cd21 ct21), sl21⟩) (c21 : PySem.W.codeIn K cd21 "good_ones" = true) (k21 : PySem.W.keepIn K (.ref f21) = true)
    (a22 : PySem.W.nsIn K mainGlobals "largest" = some (some (.ref f22))) (l22 : K.lookup f22 = some ⟨oc22, od22, .func (PySem.W.fnOf "largest" "largest" (defArgs s_largest) (defBody s_largest) (defScope s_largest) .none kV22 dc22 pm22 an22 cd22 ct22), sl22⟩) (c22 : PySem.W.codeIn K cd22 "largest" = true) (k22 : PySem.W.keepIn K (.ref f22) = true)
    (a23 : PySem.W.nsIn K mainGlobals "most_granted" = some (some (.ref f23))) (l23 : K.lookup f23 = some ⟨oc23, od23, .func (PySem.W.fnOf "most_granted" "most_granted" (defArgs s_most_granted) (defBody s_most_granted) (defScope s_most_granted) .none kV23 dc23 pm23 an23 cd23 ct23), sl23⟩) (c23 : PySem.W.codeIn K cd23 "most_granted" = true) (k23 : PySem.W.keepIn K (.ref f23) = true)
    (a24 : PySem.W.nsIn K mainGlobals "most_apart" = some (some (.ref f24))) (l24 : K.lookup f24 = some ⟨oc24, od24, .func (PySem.W.fnOf "most_apart" "most_apart" (defArgs s_most_apart) (defBody s_most_apart) (defScope s_most_apart) .none kV24 dc24 pm24 an24 cd24 ct24), sl24⟩) (c24 : PySem.W.codeIn K cd24 "most_apart" = true) (k24 : PySem.W.keepIn K (.ref f24) = true)
    (a25 : PySem.W.nsIn K mainGlobals "apart" = some (some (.ref f25))) (l25 : K.lookup f25 = some ⟨oc25, od25, .func (PySem.W.fnOf "apart" "apart" (defArgs s_apart) (defBody s_apart) (defScope s_apart) .none kV25 dc25 pm25 an25 cd25 ct25), sl25⟩) (c25 : PySem.W.codeIn K cd25 "apart" = true) (k25 : PySem.W.keepIn K (.ref f25) = true)
    (a26 : PySem.W.nsIn K mainGlobals "count_best" = some (some (.ref f26))) (l26 : K.lookup f26 = some ⟨oc26, od26, .func (PySem.W.fnOf "count_best" "count_best" (defArgs s_count_best) (defBody s_count_best) (defScope s_count_best) .none kV26 dc26 pm26 an26 cd26 ct26), sl26⟩) (c26 : PySem.W.codeIn K cd26 "count_best" = true) (k26 : PySem.W.keepIn K (.ref f26) = true)
    (a27 : PySem.W.nsIn K mainGlobals "best" = some (some (.ref f27))) (l27 : K.lookup f27 = some ⟨oc27, od27, .func (PySem.W.fnOf "best" "best" (defArgs s_best) (defBody s_best) (defScope s_best) .none kV27 dc27 pm27 an27 cd27 ct27), sl27⟩) (c27 : PySem.W.codeIn K cd27 "best" = true) (k27 : PySem.W.keepIn K (.ref f27) = true)
    (a28 : PySem.W.nsIn K mainGlobals "to_refuse" = some (some (.ref f28))) (l28 : K.lookup f28 = some ⟨oc28, od28, .func (PySem.W.fnOf "to_refuse" "to_refuse" (defArgs s_to_refuse) (defBody s_to_refuse) (defScope s_to_refuse) .none kV28 dc28 pm28 an28 cd28 ct28), sl28⟩) (c28 : PySem.W.codeIn K cd28 "to_refuse" = true) (k28 : PySem.W.keepIn K (.ref f28) = true)
    (a29 : PySem.W.nsIn K mainGlobals "is_ascending" = some (some (.ref f29))) (l29 : K.lookup f29 = some ⟨oc29, od29, .func (PySem.W.fnOf "is_ascending" "is_ascending" (defArgs s_is_ascending) (defBody s_is_ascending) (defScope s_is_ascending) .none kV29 dc29 pm29 an29 cd29 ct29), sl29⟩) (c29 : PySem.W.codeIn K cd29 "is_ascending" = true) (k29 : PySem.W.keepIn K (.ref f29) = true)
    (a30 : PySem.W.nsIn K mainGlobals "are_some" = some (some (.ref f30))) (l30 : K.lookup f30 = some ⟨oc30, od30, .func (PySem.W.fnOf "are_some" "are_some" (defArgs s_are_some) (defBody s_are_some) (defScope s_are_some) .none kV30 dc30 pm30 an30 cd30 ct30), sl30⟩) (c30 : PySem.W.codeIn K cd30 "are_some" = true) (k30 : PySem.W.keepIn K (.ref f30) = true)
    (a31 : PySem.W.nsIn K mainGlobals "check_some" = some (some (.ref f31))) (l31 : K.lookup f31 = some ⟨oc31, od31, .func (PySem.W.fnOf "check_some" "check_some" (defArgs s_check_some) (defBody s_check_some) (defScope s_check_some) .none kV31 dc31 pm31 an31 cd31 ct31), sl31⟩) (c31 : PySem.W.codeIn K cd31 "check_some" = true) (k31 : PySem.W.keepIn K (.ref f31) = true)
    (a32 : PySem.W.nsIn K mainGlobals "check_number" = some (some (.ref f32))) (l32 : K.lookup f32 = some ⟨oc32, od32, .func (PySem.W.fnOf "check_number" "check_number" (defArgs s_check_number) (defBody s_check_number) (defScope s_check_number) .none kV32 dc32 pm32 an32 cd32 ct32), sl32⟩) (c32 : PySem.W.codeIn K cd32 "check_number" = true) (k32 : PySem.W.keepIn K (.ref f32) = true)
    (a33 : PySem.W.nsIn K mainGlobals "check_good" = some (some (.ref f33))) (l33 : K.lookup f33 = some ⟨oc33, od33, .func (PySem.W.fnOf "check_good" "check_good" (defArgs s_check_good) (defBody s_check_good) (defScope s_check_good) .none kV33 dc33 pm33 an33 cd33 ct33), sl33⟩) (c33 : PySem.W.codeIn K cd33 "check_good" = true) (k33 : PySem.W.keepIn K (.ref f33) = true)
    (a34 : PySem.W.nsIn K mainGlobals "trips" = some (some (.ref f34))) (l34 : K.lookup f34 = some ⟨oc34, od34, .func (PySem.W.fnOf "trips" "trips" (defArgs s_trips) (defBody s_trips) (defScope s_trips) .none kV34 dc34 pm34 an34 cd34 ct34), sl34⟩) (c34 : PySem.W.codeIn K cd34 "trips" = true) (k34 : PySem.W.keepIn K (.ref f34) = true)
    (a35 : PySem.W.nsIn K mainGlobals "journeys" = some (some (.ref f35))) (l35 : K.lookup f35 = some ⟨oc35, od35, .func (PySem.W.fnOf "journeys" "journeys" (defArgs s_journeys) (defBody s_journeys) (defScope s_journeys) .none kV35 dc35 pm35 an35 cd35 ct35), sl35⟩) (c35 : PySem.W.codeIn K cd35 "journeys" = true) (k35 : PySem.W.keepIn K (.ref f35) = true)
    (a36 : PySem.W.nsIn K mainGlobals "check_wish" = some (some (.ref f36))) (l36 : K.lookup f36 = some ⟨oc36, od36, .func (PySem.W.fnOf "check_wish" "check_wish" (defArgs s_check_wish) (defBody s_check_wish) (defScope s_check_wish) .none kV36 dc36 pm36 an36 cd36 ct36), sl36⟩) (c36 : PySem.W.codeIn K cd36 "check_wish" = true) (k36 : PySem.W.keepIn K (.ref f36) = true)
    (a37 : PySem.W.nsIn K mainGlobals "role" = some (some (.ref f37))) (l37 : K.lookup f37 = some ⟨oc37, od37, .func (PySem.W.fnOf "role" "role" (defArgs s_role) (defBody s_role) (defScope s_role) .none kV37 dc37 pm37 an37 cd37 ct37), sl37⟩) (c37 : PySem.W.codeIn K cd37 "role" = true) (k37 : PySem.W.keepIn K (.ref f37) = true)
    (a38 : PySem.W.nsIn K mainGlobals "check_item" = some (some (.ref f38))) (l38 : K.lookup f38 = some ⟨oc38, od38, .func (PySem.W.fnOf "check_item" "check_item" (defArgs s_check_item) (defBody s_check_item) (defScope s_check_item) .none kV38 dc38 pm38 an38 cd38 ct38), sl38⟩) (c38 : PySem.W.codeIn K cd38 "check_item" = true) (k38 : PySem.W.keepIn K (.ref f38) = true)
    (a39 : PySem.W.nsIn K mainGlobals "ends_met" = some (some (.ref f39))) (l39 : K.lookup f39 = some ⟨oc39, od39, .func (PySem.W.fnOf "ends_met" "ends_met" (defArgs s_ends_met) (defBody s_ends_met) (defScope s_ends_met) .none kV39 dc39 pm39 an39 cd39 ct39), sl39⟩) (c39 : PySem.W.codeIn K cd39 "ends_met" = true) (k39 : PySem.W.keepIn K (.ref f39) = true)
    (a40 : PySem.W.nsIn K mainGlobals "spans_of" = some (some (.ref f40))) (l40 : K.lookup f40 = some ⟨oc40, od40, .func (PySem.W.fnOf "spans_of" "spans_of" (defArgs s_spans_of) (defBody s_spans_of) (defScope s_spans_of) .none kV40 dc40 pm40 an40 cd40 ct40), sl40⟩) (c40 : PySem.W.codeIn K cd40 "spans_of" = true) (k40 : PySem.W.keepIn K (.ref f40) = true)
    (a41 : PySem.W.nsIn K mainGlobals "loans_of" = some (some (.ref f41))) (l41 : K.lookup f41 = some ⟨oc41, od41, .func (PySem.W.fnOf "loans_of" "loans_of" (defArgs s_loans_of) (defBody s_loans_of) (defScope s_loans_of) .none kV41 dc41 pm41 an41 cd41 ct41), sl41⟩) (c41 : PySem.W.codeIn K cd41 "loans_of" = true) (k41 : PySem.W.keepIn K (.ref f41) = true)
    (a42 : PySem.W.nsIn K mainGlobals "crowded" = some (some (.ref f42))) (l42 : K.lookup f42 = some ⟨oc42, od42, .func (PySem.W.fnOf "crowded" "crowded" (defArgs s_crowded) (defBody s_crowded) (defScope s_crowded) .none kV42 dc42 pm42 an42 cd42 ct42), sl42⟩) (c42 : PySem.W.codeIn K cd42 "crowded" = true) (k42 : PySem.W.keepIn K (.ref f42) = true)
    (a43 : PySem.W.nsIn K mainGlobals "reasons_of" = some (some (.ref f43))) (l43 : K.lookup f43 = some ⟨oc43, od43, .func (PySem.W.fnOf "reasons_of" "reasons_of" (defArgs s_reasons_of) (defBody s_reasons_of) (defScope s_reasons_of) .none kV43 dc43 pm43 an43 cd43 ct43), sl43⟩) (c43 : PySem.W.codeIn K cd43 "reasons_of" = true) (k43 : PySem.W.keepIn K (.ref f43) = true)
    (a44 : PySem.W.nsIn K mainGlobals "reasons" = some (some (.ref f44))) (l44 : K.lookup f44 = some ⟨oc44, od44, .func (PySem.W.fnOf "reasons" "reasons" (defArgs s_reasons) (defBody s_reasons) (defScope s_reasons) .none kV44 dc44 pm44 an44 cd44 ct44), sl44⟩) (c44 : PySem.W.codeIn K cd44 "reasons" = true) (k44 : PySem.W.keepIn K (.ref f44) = true)
    (a45 : PySem.W.nsIn K mainGlobals "law" = some (some (.ref f45))) (l45 : K.lookup f45 = some ⟨oc45, od45, .func (PySem.W.fnOf "law" "law" (defArgs s_law) (defBody s_law) (defScope s_law) .none kV45 dc45 pm45 an45 cd45 ct45), sl45⟩) (c45 : PySem.W.codeIn K cd45 "law" = true) (k45 : PySem.W.keepIn K (.ref f45) = true)
    (z_isinstance : PySem.W.nsIn K mainGlobals "isinstance" = some none)
    (z_int : PySem.W.nsIn K mainGlobals "int" = some none)
    (z_bool : PySem.W.nsIn K mainGlobals "bool" = some none)
    (z_tuple : PySem.W.nsIn K mainGlobals "tuple" = some none)
    (z_list : PySem.W.nsIn K mainGlobals "list" = some none)
    (z_str : PySem.W.nsIn K mainGlobals "str" = some none)
    (z_len : PySem.W.nsIn K mainGlobals "len" = some none)
    (z_all : PySem.W.nsIn K mainGlobals "all" = some none)
    (z_any : PySem.W.nsIn K mainGlobals "any" = some none)
    (z_zip : PySem.W.nsIn K mainGlobals "zip" = some none)
    (z_sum : PySem.W.nsIn K mainGlobals "sum" = some none)
    (z_range : PySem.W.nsIn K mainGlobals "range" = some none)
    (z_enumerate : PySem.W.nsIn K mainGlobals "enumerate" = some none)
    (z_max : PySem.W.nsIn K mainGlobals "max" = some none)
    (z_min : PySem.W.nsIn K mainGlobals "min" = some none)
    (z_sorted : PySem.W.nsIn K mainGlobals "sorted" = some none)
    (z_set : PySem.W.nsIn K mainGlobals "set" = some none)
    (y_LAST : PySem.W.nsIn K mainGlobals "LAST" = some (some (.int 60 t_LAST))) :
    ∃ fd : FuncData, (∀ (s : Shared) (v : Value), BindsTo s fd ⟨[v], []⟩ [("_law_script", v)]) ∧ ∀ base : Heap, K.In base → base.Ns mainGlobals mg → FnOk l.prog w K mg base CX0 131 fa fd ["_law_script"] (spLaw K) := by
  have e := hfa.symm.trans (PySem.W.mg_of X G a45)
  cases e
  have B : Bt mg := ⟨PySem.W.mg_none_of X G z_isinstance, PySem.W.mg_none_of X G z_int, PySem.W.mg_none_of X G z_bool, PySem.W.mg_none_of X G z_tuple, PySem.W.mg_none_of X G z_list, PySem.W.mg_none_of X G z_str, PySem.W.mg_none_of X G z_len, PySem.W.mg_none_of X G z_all, PySem.W.mg_none_of X G z_any, PySem.W.mg_none_of X G z_zip, PySem.W.mg_none_of X G z_sum, PySem.W.mg_none_of X G z_range, PySem.W.mg_none_of X G z_enumerate, PySem.W.mg_none_of X G z_max, PySem.W.mg_none_of X G z_min, PySem.W.mg_none_of X G z_sorted, PySem.W.mg_none_of X G z_set⟩
  have g_LAST : G_LAST mg := ⟨_, PySem.W.mg_of X G y_LAST⟩
  have A0 : DefAt K mg "_law_begun" s_law_begun [] f0 _ := ⟨fun_mk (st := s_law_begun) l0 c0 k0, PySem.W.mg_of X G a0, Kw.of fun vs hl m hm => match vs, hl with | [], _ => (match m, hm with | 0, _ => rfl | m + 1, hm => absurd hm (by show ¬ (m + 1 ≤ 0); omega))⟩
  have A1 : DefAt K mg "_law_draw" s_law_draw ["_law_script", "_law_town", "_law_many"] f1 _ := ⟨fun_mk (st := s_law_draw) l1 c1 k1, PySem.W.mg_of X G a1, Kw.of fun vs hl m hm => match vs, hl with | [_, _, _], _ => (match m, hm with | 0, _ => rfl | 1, _ => rfl | 2, _ => rfl | 3, _ => rfl | m + 4, hm => absurd hm (by show ¬ (m + 4 ≤ 3); omega))⟩
  have A2 : DefAt K mg "_law_little" s_law_little ["_law_script", "_law_town"] f2 _ := ⟨fun_mk (st := s_law_little) l2 c2 k2, PySem.W.mg_of X G a2, Kw.of fun vs hl m hm => match vs, hl with | [_, _], _ => (match m, hm with | 0, _ => rfl | 1, _ => rfl | 2, _ => rfl | m + 3, hm => absurd hm (by show ¬ (m + 3 ≤ 2); omega))⟩
  have A3 : DefAt K mg "_law_together" s_law_together ["_law_one", "_law_other"] f3 _ := ⟨fun_mk (st := s_law_together) l3 c3 k3, PySem.W.mg_of X G a3, Kw.of fun vs hl m hm => match vs, hl with | [_, _], _ => (match m, hm with | 0, _ => rfl | 1, _ => rfl | 2, _ => rfl | m + 3, hm => absurd hm (by show ¬ (m + 3 ≤ 2); omega))⟩
  have A4 : DefAt K mg "_law_moved" s_law_moved ["_law_row", "_law_by"] f4 _ := ⟨fun_mk (st := s_law_moved) l4 c4 k4, PySem.W.mg_of X G a4, Kw.of fun vs hl m hm => match vs, hl with | [_, _], _ => (match m, hm with | 0, _ => rfl | 1, _ => rfl | 2, _ => rfl | m + 3, hm => absurd hm (by show ¬ (m + 3 ≤ 2); omega))⟩
  have A5 : DefAt K mg "is_between" s_is_between ["value", "low", "high"] f5 _ := ⟨fun_mk (st := s_is_between) l5 c5 k5, PySem.W.mg_of X G a5, Kw.of fun vs hl m hm => match vs, hl with | [_, _, _], _ => (match m, hm with | 0, _ => rfl | 1, _ => rfl | 2, _ => rfl | 3, _ => rfl | m + 4, hm => absurd hm (by show ¬ (m + 4 ≤ 3); omega))⟩
  have A6 : DefAt K mg "is_object" s_is_object ["houses", "value"] f6 _ := ⟨fun_mk (st := s_is_object) l6 c6 k6, PySem.W.mg_of X G a6, Kw.of fun vs hl m hm => match vs, hl with | [_, _], _ => (match m, hm with | 0, _ => rfl | 1, _ => rfl | 2, _ => rfl | m + 3, hm => absurd hm (by show ¬ (m + 3 ≤ 2); omega))⟩
  have A7 : DefAt K mg "is_wish" s_is_wish ["houses", "objects", "value"] f7 _ := ⟨fun_mk (st := s_is_wish) l7 c7 k7, PySem.W.mg_of X G a7, Kw.of fun vs hl m hm => match vs, hl with | [_, _, _], _ => (match m, hm with | 0, _ => rfl | 1, _ => rfl | 2, _ => rfl | 3, _ => rfl | m + 4, hm => absurd hm (by show ¬ (m + 4 ≤ 3); omega))⟩
  have A8 : DefAt K mg "is_plan" s_is_plan ["value"] f8 _ := ⟨fun_mk (st := s_is_plan) l8 c8 k8, PySem.W.mg_of X G a8, Kw.of fun vs hl m hm => match vs, hl with | [_], _ => (match m, hm with | 0, _ => rfl | 1, _ => rfl | m + 2, hm => absurd hm (by show ¬ (m + 2 ≤ 1); omega))⟩
  have A9 : DefAt K mg "check_plan" s_check_plan ["plan"] f9 _ := ⟨fun_mk (st := s_check_plan) l9 c9 k9, PySem.W.mg_of X G a9, Kw.of fun vs hl m hm => match vs, hl with | [_], _ => (match m, hm with | 0, _ => rfl | 1, _ => rfl | m + 2, hm => absurd hm (by show ¬ (m + 2 ≤ 1); omega))⟩
  have A10 : DefAt K mg "subsets_of" s_subsets_of ["many"] f10 _ := ⟨fun_mk (st := s_subsets_of) l10 c10 k10, PySem.W.mg_of X G a10, Kw.of fun vs hl m hm => match vs, hl with | [_], _ => (match m, hm with | 0, _ => rfl | 1, _ => rfl | m + 2, hm => absurd hm (by show ¬ (m + 2 ≤ 1); omega))⟩
  have A11 : DefAt K mg "do_rest" s_do_rest ["one", "other", "rest"] f11 _ := ⟨fun_mk (st := s_do_rest) l11 c11 k11, PySem.W.mg_of X G a11, Kw.of fun vs hl m hm => match vs, hl with | [_, _, _], _ => (match m, hm with | 0, _ => rfl | 1, _ => rfl | 2, _ => rfl | 3, _ => rfl | m + 4, hm => absurd hm (by show ¬ (m + 4 ≤ 3); omega))⟩
  have A12 : DefAt K mg "tired" s_tired ["plan", "wishes"] f12 _ := ⟨fun_mk (st := s_tired) l12 c12 k12, PySem.W.mg_of X G a12, Kw.of fun vs hl m hm => match vs, hl with | [_, _], _ => (match m, hm with | 0, _ => rfl | 1, _ => rfl | 2, _ => rfl | m + 3, hm => absurd hm (by show ¬ (m + 3 ≤ 2); omega))⟩
  have A13 : DefAt K mg "weeks_of" s_weeks_of ["wishes", "item"] f13 _ := ⟨fun_mk (st := s_weeks_of) l13 c13 k13, PySem.W.mg_of X G a13, Kw.of fun vs hl m hm => match vs, hl with | [_, _], _ => (match m, hm with | 0, _ => rfl | 1, _ => rfl | 2, _ => rfl | m + 3, hm => absurd hm (by show ¬ (m + 3 ≤ 2); omega))⟩
  have A14 : DefAt K mg "bleached" s_bleached ["plan", "wishes"] f14 _ := ⟨fun_mk (st := s_bleached) l14 c14 k14, PySem.W.mg_of X G a14, Kw.of fun vs hl m hm => match vs, hl with | [_, _], _ => (match m, hm with | 0, _ => rfl | 1, _ => rfl | 2, _ => rfl | m + 3, hm => absurd hm (by show ¬ (m + 3 ≤ 2); omega))⟩
  have A15 : DefAt K mg "value_at" s_value_at ["plan", "wishes", "house", "week"] f15 _ := ⟨fun_mk (st := s_value_at) l15 c15 k15, PySem.W.mg_of X G a15, Kw.of fun vs hl m hm => match vs, hl with | [_, _, _, _], _ => (match m, hm with | 0, _ => rfl | 1, _ => rfl | 2, _ => rfl | 3, _ => rfl | 4, _ => rfl | m + 5, hm => absurd hm (by show ¬ (m + 5 ≤ 4); omega))⟩
  have A16 : DefAt K mg "are_good" s_are_good ["plan", "wishes"] f16 _ := ⟨fun_mk (st := s_are_good) l16 c16 k16, PySem.W.mg_of X G a16, Kw.of fun vs hl m hm => match vs, hl with | [_, _], _ => (match m, hm with | 0, _ => rfl | 1, _ => rfl | 2, _ => rfl | m + 3, hm => absurd hm (by show ¬ (m + 3 ≤ 2); omega))⟩
  have A17 : DefAt K mg "named" s_named ["plan", "some"] f17 _ := ⟨fun_mk (st := s_named) l17 c17 k17, PySem.W.mg_of X G a17, Kw.of fun vs hl m hm => match vs, hl with | [_, _], _ => (match m, hm with | 0, _ => rfl | 1, _ => rfl | 2, _ => rfl | m + 3, hm => absurd hm (by show ¬ (m + 3 ≤ 2); omega))⟩
  have A18 : DefAt K mg "is_clash_of" s_is_clash_of ["plan", "some"] f18 _ := ⟨fun_mk (st := s_is_clash_of) l18 c18 k18, PySem.W.mg_of X G a18, Kw.of fun vs hl m hm => match vs, hl with | [_, _], _ => (match m, hm with | 0, _ => rfl | 1, _ => rfl | 2, _ => rfl | m + 3, hm => absurd hm (by show ¬ (m + 3 ≤ 2); omega))⟩
  have A19 : DefAt K mg "clashes_of" s_clashes_of ["plan"] f19 _ := ⟨fun_mk (st := s_clashes_of) l19 c19 k19, PySem.W.mg_of X G a19, Kw.of fun vs hl m hm => match vs, hl with | [_], _ => (match m, hm with | 0, _ => rfl | 1, _ => rfl | m + 2, hm => absurd hm (by show ¬ (m + 2 ≤ 1); omega))⟩
  have A20 : DefAt K mg "clashes" s_clashes ["plan"] f20 _ := ⟨fun_mk (st := s_clashes) l20 c20 k20, PySem.W.mg_of X G a20, Kw.of fun vs hl m hm => match vs, hl with | [_], _ => (match m, hm with | 0, _ => rfl | 1, _ => rfl | m + 2, hm => absurd hm (by show ¬ (m + 2 ≤ 1); omega))⟩
  have A21 : DefAt K mg "good_ones" s_good_ones ["plan"] f21 _ := ⟨fun_mk (st := s_good_ones) l21 c21 k21, PySem.W.mg_of X G a21, Kw.of fun vs hl m hm => match vs, hl with | [_], _ => (match m, hm with | 0, _ => rfl | 1, _ => rfl | m + 2, hm => absurd hm (by show ¬ (m + 2 ≤ 1); omega))⟩
  have A22 : DefAt K mg "largest" s_largest ["plan"] f22 _ := ⟨fun_mk (st := s_largest) l22 c22 k22, PySem.W.mg_of X G a22, Kw.of fun vs hl m hm => match vs, hl with | [_], _ => (match m, hm with | 0, _ => rfl | 1, _ => rfl | m + 2, hm => absurd hm (by show ¬ (m + 2 ≤ 1); omega))⟩
  have A23 : DefAt K mg "most_granted" s_most_granted ["plan"] f23 _ := ⟨fun_mk (st := s_most_granted) l23 c23 k23, PySem.W.mg_of X G a23, Kw.of fun vs hl m hm => match vs, hl with | [_], _ => (match m, hm with | 0, _ => rfl | 1, _ => rfl | m + 2, hm => absurd hm (by show ¬ (m + 2 ≤ 1); omega))⟩
  have A24 : DefAt K mg "most_apart" s_most_apart ["rows"] f24 _ := ⟨fun_mk (st := s_most_apart) l24 c24 k24, PySem.W.mg_of X G a24, Kw.of fun vs hl m hm => match vs, hl with | [_], _ => (match m, hm with | 0, _ => rfl | 1, _ => rfl | m + 2, hm => absurd hm (by show ¬ (m + 2 ≤ 1); omega))⟩
  have A25 : DefAt K mg "apart" s_apart ["plan"] f25 _ := ⟨fun_mk (st := s_apart) l25 c25 k25, PySem.W.mg_of X G a25, Kw.of fun vs hl m hm => match vs, hl with | [_], _ => (match m, hm with | 0, _ => rfl | 1, _ => rfl | m + 2, hm => absurd hm (by show ¬ (m + 2 ≤ 1); omega))⟩
  have A26 : DefAt K mg "count_best" s_count_best ["plan"] f26 _ := ⟨fun_mk (st := s_count_best) l26 c26 k26, PySem.W.mg_of X G a26, Kw.of fun vs hl m hm => match vs, hl with | [_], _ => (match m, hm with | 0, _ => rfl | 1, _ => rfl | m + 2, hm => absurd hm (by show ¬ (m + 2 ≤ 1); omega))⟩
  have A27 : DefAt K mg "best" s_best ["plan"] f27 _ := ⟨fun_mk (st := s_best) l27 c27 k27, PySem.W.mg_of X G a27, Kw.of fun vs hl m hm => match vs, hl with | [_], _ => (match m, hm with | 0, _ => rfl | 1, _ => rfl | m + 2, hm => absurd hm (by show ¬ (m + 2 ≤ 1); omega))⟩
  have A28 : DefAt K mg "to_refuse" s_to_refuse ["plan"] f28 _ := ⟨fun_mk (st := s_to_refuse) l28 c28 k28, PySem.W.mg_of X G a28, Kw.of fun vs hl m hm => match vs, hl with | [_], _ => (match m, hm with | 0, _ => rfl | 1, _ => rfl | m + 2, hm => absurd hm (by show ¬ (m + 2 ≤ 1); omega))⟩
  have A29 : DefAt K mg "is_ascending" s_is_ascending ["values"] f29 _ := ⟨fun_mk (st := s_is_ascending) l29 c29 k29, PySem.W.mg_of X G a29, Kw.of fun vs hl m hm => match vs, hl with | [_], _ => (match m, hm with | 0, _ => rfl | 1, _ => rfl | m + 2, hm => absurd hm (by show ¬ (m + 2 ≤ 1); omega))⟩
  have A30 : DefAt K mg "are_some" s_are_some ["plan", "value"] f30 _ := ⟨fun_mk (st := s_are_some) l30 c30 k30, PySem.W.mg_of X G a30, Kw.of fun vs hl m hm => match vs, hl with | [_, _], _ => (match m, hm with | 0, _ => rfl | 1, _ => rfl | 2, _ => rfl | m + 3, hm => absurd hm (by show ¬ (m + 3 ≤ 2); omega))⟩
  have A31 : DefAt K mg "check_some" s_check_some ["plan", "some"] f31 _ := ⟨fun_mk (st := s_check_some) l31 c31 k31, PySem.W.mg_of X G a31, Kw.of fun vs hl m hm => match vs, hl with | [_, _], _ => (match m, hm with | 0, _ => rfl | 1, _ => rfl | 2, _ => rfl | m + 3, hm => absurd hm (by show ¬ (m + 3 ≤ 2); omega))⟩
  have A32 : DefAt K mg "check_number" s_check_number ["value", "low", "high"] f32 _ := ⟨fun_mk (st := s_check_number) l32 c32 k32, PySem.W.mg_of X G a32, Kw.of fun vs hl m hm => match vs, hl with | [_, _, _], _ => (match m, hm with | 0, _ => rfl | 1, _ => rfl | 2, _ => rfl | 3, _ => rfl | m + 4, hm => absurd hm (by show ¬ (m + 4 ≤ 3); omega))⟩
  have A33 : DefAt K mg "check_good" s_check_good ["plan", "some"] f33 _ := ⟨fun_mk (st := s_check_good) l33 c33 k33, PySem.W.mg_of X G a33, Kw.of fun vs hl m hm => match vs, hl with | [_, _], _ => (match m, hm with | 0, _ => rfl | 1, _ => rfl | 2, _ => rfl | m + 3, hm => absurd hm (by show ¬ (m + 3 ≤ 2); omega))⟩
  have A34 : DefAt K mg "trips" s_trips ["loans", "wait"] f34 _ := ⟨fun_mk (st := s_trips) l34 c34 k34, PySem.W.mg_of X G a34, Kw.of fun vs hl m hm => match vs, hl with | [_, _], _ => (match m, hm with | 0, _ => rfl | 1, _ => rfl | 2, _ => rfl | m + 3, hm => absurd hm (by show ¬ (m + 3 ≤ 2); omega))⟩
  have A35 : DefAt K mg "journeys" s_journeys ["plan", "some", "wait"] f35 _ := ⟨fun_mk (st := s_journeys) l35 c35 k35, PySem.W.mg_of X G a35, Kw.of fun vs hl m hm => match vs, hl with | [_, _, _], _ => (match m, hm with | 0, _ => rfl | 1, _ => rfl | 2, _ => rfl | 3, _ => rfl | m + 4, hm => absurd hm (by show ¬ (m + 4 ≤ 3); omega))⟩
  have A36 : DefAt K mg "check_wish" s_check_wish ["plan", "wish"] f36 _ := ⟨fun_mk (st := s_check_wish) l36 c36 k36, PySem.W.mg_of X G a36, Kw.of fun vs hl m hm => match vs, hl with | [_, _], _ => (match m, hm with | 0, _ => rfl | 1, _ => rfl | 2, _ => rfl | m + 3, hm => absurd hm (by show ¬ (m + 3 ≤ 2); omega))⟩
  have A37 : DefAt K mg "role" s_role ["plan", "wish"] f37 _ := ⟨fun_mk (st := s_role) l37 c37 k37, PySem.W.mg_of X G a37, Kw.of fun vs hl m hm => match vs, hl with | [_, _], _ => (match m, hm with | 0, _ => rfl | 1, _ => rfl | 2, _ => rfl | m + 3, hm => absurd hm (by show ¬ (m + 3 ≤ 2); omega))⟩
  have A38 : DefAt K mg "check_item" s_check_item ["plan", "item"] f38 _ := ⟨fun_mk (st := s_check_item) l38 c38 k38, PySem.W.mg_of X G a38, Kw.of fun vs hl m hm => match vs, hl with | [_, _], _ => (match m, hm with | 0, _ => rfl | 1, _ => rfl | 2, _ => rfl | m + 3, hm => absurd hm (by show ¬ (m + 3 ≤ 2); omega))⟩
  have A39 : DefAt K mg "ends_met" s_ends_met ["spans"] f39 _ := ⟨fun_mk (st := s_ends_met) l39 c39 k39, PySem.W.mg_of X G a39, Kw.of fun vs hl m hm => match vs, hl with | [_], _ => (match m, hm with | 0, _ => rfl | 1, _ => rfl | m + 2, hm => absurd hm (by show ¬ (m + 2 ≤ 1); omega))⟩
  have A40 : DefAt K mg "spans_of" s_spans_of ["plan", "item"] f40 _ := ⟨fun_mk (st := s_spans_of) l40 c40 k40, PySem.W.mg_of X G a40, Kw.of fun vs hl m hm => match vs, hl with | [_, _], _ => (match m, hm with | 0, _ => rfl | 1, _ => rfl | 2, _ => rfl | m + 3, hm => absurd hm (by show ¬ (m + 3 ≤ 2); omega))⟩
  have A41 : DefAt K mg "loans_of" s_loans_of ["plan", "item"] f41 _ := ⟨fun_mk (st := s_loans_of) l41 c41 k41, PySem.W.mg_of X G a41, Kw.of fun vs hl m hm => match vs, hl with | [_, _], _ => (match m, hm with | 0, _ => rfl | 1, _ => rfl | 2, _ => rfl | m + 3, hm => absurd hm (by show ¬ (m + 3 ≤ 2); omega))⟩
  have A42 : DefAt K mg "crowded" s_crowded ["plan", "wishes"] f42 _ := ⟨fun_mk (st := s_crowded) l42 c42 k42, PySem.W.mg_of X G a42, Kw.of fun vs hl m hm => match vs, hl with | [_, _], _ => (match m, hm with | 0, _ => rfl | 1, _ => rfl | 2, _ => rfl | m + 3, hm => absurd hm (by show ¬ (m + 3 ≤ 2); omega))⟩
  have A43 : DefAt K mg "reasons_of" s_reasons_of ["plan", "some"] f43 _ := ⟨fun_mk (st := s_reasons_of) l43 c43 k43, PySem.W.mg_of X G a43, Kw.of fun vs hl m hm => match vs, hl with | [_, _], _ => (match m, hm with | 0, _ => rfl | 1, _ => rfl | 2, _ => rfl | m + 3, hm => absurd hm (by show ¬ (m + 3 ≤ 2); omega))⟩
  have A44 : DefAt K mg "reasons" s_reasons ["plan", "some"] f44 _ := ⟨fun_mk (st := s_reasons) l44 c44 k44, PySem.W.mg_of X G a44, Kw.of fun vs hl m hm => match vs, hl with | [_, _], _ => (match m, hm with | 0, _ => rfl | 1, _ => rfl | 2, _ => rfl | m + 3, hm => absurd hm (by show ¬ (m + 3 ≤ 2); omega))⟩
  have A45 : DefAt K mg "law" s_law ["_law_script"] fa _ := ⟨fun_mk (st := s_law) l45 c45 k45, PySem.W.mg_of X G a45, Kw.of fun vs hl m hm => match vs, hl with | [_], _ => (match m, hm with | 0, _ => rfl | 1, _ => rfl | m + 2, hm => absurd hm (by show ¬ (m + 2 ≤ 1); omega))⟩
  refine ⟨PySem.W.fnOf "law" "law" (defArgs s_law) (defBody s_law) (defScope s_law) .none kV45 dc45 pm45 an45 cd45 ct45, fun s v => .of_eq rfl, fun base _ _ => ?_⟩
  have h_law_begun : DefB l.prog w K mg base 1 "_law_begun" := d_law_begun A0 B
  have h_law_draw : DefT l.prog w K mg base 1 "_law_draw" ["_law_script", "_law_town", "_law_many"] c_law_draw := d_law_draw A1 B
  have h_law_little : DefT l.prog w K mg base 2 "_law_little" ["_law_script", "_law_town"] c_law_little := d_law_little A2 B (h_law_draw)
  have h_law_together : Def l.prog w K mg base 1 "_law_together" ["_law_one", "_law_other"] c_law_together := d_law_together A3 B
  have h_law_moved : Def l.prog w K mg base 1 "_law_moved" ["_law_row", "_law_by"] c_law_moved := d_law_moved A4 B
  have h_is_between : Def l.prog w K mg base 1 "is_between" ["value", "low", "high"] c_is_between := d_is_between A5 B
  have h_is_object : Def l.prog w K mg base 2 "is_object" ["houses", "value"] c_is_object := d_is_object A6 B (h_is_between)
  have h_is_wish : Def l.prog w K mg base 2 "is_wish" ["houses", "objects", "value"] c_is_wish := d_is_wish A7 B g_LAST (h_is_between)
  have h_is_plan : Def l.prog w K mg base 3 "is_plan" ["value"] c_is_plan := d_is_plan A8 B h_is_between (h_is_object) (h_is_wish)
  have h_check_plan : Def l.prog w K mg base 4 "check_plan" ["plan"] c_check_plan := d_check_plan A9 B (h_is_plan)
  have h_subsets_of : Def l.prog w K mg base 1 "subsets_of" ["many"] c_subsets_of := d_subsets_of A10 B
  have h_do_rest : Def l.prog w K mg base 1 "do_rest" ["one", "other", "rest"] c_do_rest := d_do_rest A11 B
  have h_tired : Def l.prog w K mg base 2 "tired" ["plan", "wishes"] c_tired := d_tired A12 B (h_do_rest)
  have h_weeks_of : Def l.prog w K mg base 1 "weeks_of" ["wishes", "item"] c_weeks_of := d_weeks_of A13 B
  have h_bleached : Def l.prog w K mg base 2 "bleached" ["plan", "wishes"] c_bleached := d_bleached A14 B (h_weeks_of)
  have h_value_at : Def l.prog w K mg base 1 "value_at" ["plan", "wishes", "house", "week"] c_value_at := d_value_at A15 B
  have h_are_good : Def l.prog w K mg base 3 "are_good" ["plan", "wishes"] c_are_good := d_are_good A16 B (h_tired) (h_bleached) h_value_at
  have h_named : Def l.prog w K mg base 1 "named" ["plan", "some"] c_named := d_named A17 B
  have h_is_clash_of : Def l.prog w K mg base 4 "is_clash_of" ["plan", "some"] c_is_clash_of := d_is_clash_of A18 B (h_are_good) h_named
  have h_clashes_of : Def l.prog w K mg base 5 "clashes_of" ["plan"] c_clashes_of := d_clashes_of A19 B h_subsets_of (h_is_clash_of)
  have h_clashes : Def l.prog w K mg base 6 "clashes" ["plan"] c_clashes := d_clashes A20 B h_check_plan (h_clashes_of)
  have h_good_ones : Def l.prog w K mg base 4 "good_ones" ["plan"] c_good_ones := d_good_ones A21 B h_subsets_of (h_are_good) h_named
  have h_largest : Def l.prog w K mg base 5 "largest" ["plan"] c_largest := d_largest A22 B (h_good_ones)
  have h_most_granted : Def l.prog w K mg base 6 "most_granted" ["plan"] c_most_granted := d_most_granted A23 B h_check_plan (h_largest)
  have h_most_apart : Def l.prog w K mg base 129 "most_apart" ["rows"] (c_most_apart 128) := d_most_apart A24 B
  have h_apart : Def l.prog w K mg base 130 "apart" ["plan"] c_apart := d_apart A25 B h_check_plan h_clashes_of (h_most_apart)
  have h_count_best : Def l.prog w K mg base 6 "count_best" ["plan"] c_count_best := d_count_best A26 B h_check_plan (h_largest)
  have h_best : Def l.prog w K mg base 6 "best" ["plan"] c_best := d_best A27 B h_check_plan (h_largest)
  have h_to_refuse : Def l.prog w K mg base 6 "to_refuse" ["plan"] c_to_refuse := d_to_refuse A28 B h_check_plan (h_largest)
  have h_is_ascending : Def l.prog w K mg base 1 "is_ascending" ["values"] c_is_ascending := d_is_ascending A29 B
  have h_are_some : Def l.prog w K mg base 2 "are_some" ["plan", "value"] c_are_some := d_are_some A30 B (h_is_between) (h_is_ascending)
  have h_check_some : Def l.prog w K mg base 5 "check_some" ["plan", "some"] c_check_some := d_check_some A31 B (h_check_plan) h_are_some
  have h_check_number : Def l.prog w K mg base 2 "check_number" ["value", "low", "high"] c_check_number := d_check_number A32 B (h_is_between)
  have h_check_good : Def l.prog w K mg base 4 "check_good" ["plan", "some"] c_check_good := d_check_good A33 B (h_are_good) h_named
  have h_trips : Def l.prog w K mg base 1 "trips" ["loans", "wait"] c_trips := d_trips A34 B
  have h_journeys : Def l.prog w K mg base 6 "journeys" ["plan", "some", "wait"] c_journeys := d_journeys A35 B (h_check_some) h_check_number h_check_good h_named h_trips
  have h_check_wish : Def l.prog w K mg base 5 "check_wish" ["plan", "wish"] c_check_wish := d_check_wish A36 B (h_check_plan) h_check_number
  have h_role : Def l.prog w K mg base 6 "role" ["plan", "wish"] c_role := d_role A37 B (h_check_wish) (h_largest)
  have h_check_item : Def l.prog w K mg base 5 "check_item" ["plan", "item"] c_check_item := d_check_item A38 B (h_check_plan) h_check_number
  have h_ends_met : Def l.prog w K mg base 1 "ends_met" ["spans"] c_ends_met := d_ends_met A39 B
  have h_spans_of : Def l.prog w K mg base 1 "spans_of" ["plan", "item"] c_spans_of := d_spans_of A40 B
  have h_loans_of : Def l.prog w K mg base 6 "loans_of" ["plan", "item"] c_loans_of := d_loans_of A41 B (h_check_item) h_ends_met h_spans_of
  have h_crowded : Def l.prog w K mg base 2 "crowded" ["plan", "wishes"] c_crowded := d_crowded A42 B g_LAST (h_value_at)
  have h_reasons_of : Def l.prog w K mg base 3 "reasons_of" ["plan", "some"] c_reasons_of := d_reasons_of A43 B h_named (h_bleached) (h_tired) (h_crowded)
  have h_reasons : Def l.prog w K mg base 6 "reasons" ["plan", "some"] c_reasons := d_reasons A44 B (h_check_some) h_reasons_of
  exact d_law A45 B (h_law_begun) (h_law_little) (h_law_draw) h_law_together h_law_moved h_is_plan h_clashes h_most_granted (h_apart) h_count_best h_best h_to_refuse h_journeys h_role h_loans_of h_reasons
end Mus
open PySem PySem.W PyProof.Rows
set_option maxHeartbeats 0 in
theorem PySem.Challenge.cw_museumloans_k30_whole_two_parts_holds : PySem.Challenge.rw_museumloans_k30_whole_two_parts.Holds := by
  w_on; o_law; k_head; (case hw => w_witness2)
  k_fill
  refine L2.walk_of (l := PySem.Challenge.rw_museumloans_k30_whole_two_parts) (n := 63) (k := 131) (x := "_law_script") (CX := fun _ => L2.CX0) (sp := fun w => PL.spLaw _) rfl (by decide) rfl ⟨rfl, by decide, by decide⟩ (fun w h Y => PySem.W.kIn_of Y) ?F (fun _ _ a ns hl _ hS => ⟨a, ns, rfl, hS, hl, fun _ => rfl⟩) (fun _ _ _ _ _ h => h)
  case F =>
    intro w mg fa h KX G hmg
    refine' Mus.all_mk KX G hmg ?a0 ?l0 ?c0 ?k0 ?a1 ?l1 ?c1 ?k1 ?a2 ?l2 ?c2 ?k2 ?a3 ?l3 ?c3 ?k3 ?a4 ?l4 ?c4 ?k4 ?a5 ?l5 ?c5 ?k5 ?a6 ?l6 ?c6 ?k6 ?a7 ?l7 ?c7 ?k7 ?a8 ?l8 ?c8 ?k8 ?a9 ?l9 ?c9 ?k9 ?a10 ?l10 ?c10 ?k10 ?a11 ?l11 ?c11 ?k11 ?a12 ?l12 ?c12 ?k12 ?a13 ?l13 ?c13 ?k13 ?a14 ?l14 ?c14 ?k14 ?a15 ?l15 ?c15 ?k15 ?a16 ?l16 ?c16 ?k16 ?a17 ?l17 ?c17 ?k17 ?a18 ?l18 ?c18 ?k18 ?a19 ?l19 ?c19 ?k19 ?a20 ?l20 ?c20 ?k20 ?a21 ?l21 ?c21 ?k21 ?a22 ?l22 ?c22 ?k22 ?a23 ?l23 ?c23 ?k23 ?a24 ?l24 ?c24 ?k24 ?a25 ?l25 ?c25 ?k25 ?a26 ?l26 ?c26 ?k26 ?a27 ?l27 ?c27 ?k27 ?a28 ?l28 ?c28 ?k28 ?a29 ?l29 ?c29 ?k29 ?a30 ?l30 ?c30 ?k30 ?a31 ?l31 ?c31 ?k31 ?a32 ?l32 ?c32 ?k32 ?a33 ?l33 ?c33 ?k33 ?a34 ?l34 ?c34 ?k34 ?a35 ?l35 ?c35 ?k35 ?a36 ?l36 ?c36 ?k36 ?a37 ?l37 ?c37 ?k37 ?a38 ?l38 ?c38 ?k38 ?a39 ?l39 ?c39 ?k39 ?a40 ?l40 ?c40 ?k40 ?a41 ?l41 ?c41 ?k41 ?a42 ?l42 ?c42 ?k42 ?a43 ?l43 ?c43 ?k43 ?a44 ?l44 ?c44 ?k44 ?a45 ?l45 ?c45 ?k45 ?z_isinstance ?z_int ?z_bool ?z_tuple ?z_list ?z_str ?z_len ?z_all ?z_any ?z_zip ?z_sum ?z_range ?z_enumerate ?z_max ?z_min ?z_sorted ?z_set ?y_LAST
    case a0 => k_is
    case l0 => k_is
    case c0 => k_is
    case k0 => k_is
    case a1 => k_is
    case l1 => k_is
    case c1 => k_is
    case k1 => k_is
    case a2 => k_is
    case l2 => k_is
    case c2 => k_is
    case k2 => k_is
    case a3 => k_is
    case l3 => k_is
    case c3 => k_is
    case k3 => k_is
    case a4 => k_is
    case l4 => k_is
    case c4 => k_is
    case k4 => k_is
    case a5 => k_is
    case l5 => k_is
    case c5 => k_is
    case k5 => k_is
    case a6 => k_is
    case l6 => k_is
    case c6 => k_is
    case k6 => k_is
    case a7 => k_is
    case l7 => k_is
    case c7 => k_is
    case k7 => k_is
    case a8 => k_is
    case l8 => k_is
    case c8 => k_is
    case k8 => k_is
    case a9 => k_is
    case l9 => k_is
    case c9 => k_is
    case k9 => k_is
    case a10 => k_is
    case l10 => k_is
    case c10 => k_is
    case k10 => k_is
    case a11 => k_is
    case l11 => k_is
    case c11 => k_is
    case k11 => k_is
    case a12 => k_is
    case l12 => k_is
    case c12 => k_is
    case k12 => k_is
    case a13 => k_is
    case l13 => k_is
    case c13 => k_is
    case k13 => k_is
    case a14 => k_is
    case l14 => k_is
    case c14 => k_is
    case k14 => k_is
    case a15 => k_is
    case l15 => k_is
    case c15 => k_is
    case k15 => k_is
    case a16 => k_is
    case l16 => k_is
    case c16 => k_is
    case k16 => k_is
    case a17 => k_is
    case l17 => k_is
    case c17 => k_is
    case k17 => k_is
    case a18 => k_is
    case l18 => k_is
    case c18 => k_is
    case k18 => k_is
    case a19 => k_is
    case l19 => k_is
    case c19 => k_is
    case k19 => k_is
    case a20 => k_is
    case l20 => k_is
    case c20 => k_is
    case k20 => k_is
    case a21 => k_is
    case l21 => k_is
    case c21 => k_is
    case k21 => k_is
    case a22 => k_is
    case l22 => k_is
    case c22 => k_is
    case k22 => k_is
    case a23 => k_is
    case l23 => k_is
    case c23 => k_is
    case k23 => k_is
    case a24 => k_is
    case l24 => k_is
    case c24 => k_is
    case k24 => k_is
    case a25 => k_is
    case l25 => k_is
    case c25 => k_is
    case k25 => k_is
    case a26 => k_is
    case l26 => k_is
    case c26 => k_is
    case k26 => k_is
    case a27 => k_is
    case l27 => k_is
    case c27 => k_is
    case k27 => k_is
    case a28 => k_is
    case l28 => k_is
    case c28 => k_is
    case k28 => k_is
    case a29 => k_is
    case l29 => k_is
    case c29 => k_is
    case k29 => k_is
    case a30 => k_is
    case l30 => k_is
    case c30 => k_is
    case k30 => k_is
    case a31 => k_is
    case l31 => k_is
    case c31 => k_is
    case k31 => k_is
    case a32 => k_is
    case l32 => k_is
    case c32 => k_is
    case k32 => k_is
    case a33 => k_is
    case l33 => k_is
    case c33 => k_is
    case k33 => k_is
    case a34 => k_is
    case l34 => k_is
    case c34 => k_is
    case k34 => k_is
    case a35 => k_is
    case l35 => k_is
    case c35 => k_is
    case k35 => k_is
    case a36 => k_is
    case l36 => k_is
    case c36 => k_is
    case k36 => k_is
    case a37 => k_is
    case l37 => k_is
    case c37 => k_is
    case k37 => k_is
    case a38 => k_is
    case l38 => k_is
    case c38 => k_is
    case k38 => k_is
    case a39 => k_is
    case l39 => k_is
    case c39 => k_is
    case k39 => k_is
    case a40 => k_is
    case l40 => k_is
    case c40 => k_is
    case k40 => k_is
    case a41 => k_is
    case l41 => k_is
    case c41 => k_is
    case k41 => k_is
    case a42 => k_is
    case l42 => k_is
    case c42 => k_is
    case k42 => k_is
    case a43 => k_is
    case l43 => k_is
    case c43 => k_is
    case k43 => k_is
    case a44 => k_is
    case l44 => k_is
    case c44 => k_is
    case k44 => k_is
    case a45 => k_is
    case l45 => k_is
    case c45 => k_is
    case k45 => k_is
    case z_isinstance => k_is
    case z_int => k_is
    case z_bool => k_is
    case z_tuple => k_is
    case z_list => k_is
    case z_str => k_is
    case z_len => k_is
    case z_all => k_is
    case z_any => k_is
    case z_zip => k_is
    case z_sum => k_is
    case z_range => k_is
    case z_enumerate => k_is
    case z_max => k_is
    case z_min => k_is
    case z_sorted => k_is
    case z_set => k_is
    case y_LAST => k_is
#print axioms PySem.Challenge.cw_museumloans_k30_whole_two_parts_holds
