import PyProof.Rows.All
import Wide.All
import OpenK.AllK
import Wide.FinOn
import HandS.ForMost
import HandS.ForExc
import HandS.Zip
import HandS.Deep
import HandS.TupAny
import HandS.TupLe
import HandS.IsInst
import KE.GoesEnum
import HandS.Conv
import KE.SortData
import KE.DataMinMax
import HandS.SetFor
import HandS.Strs
import HandS.TupMul
import HandS.Lambda
import HandS.ExcOwn
import HandS.ExcIs
import HandS.WordsExc
import HandS.EndTab
import HandS.CallLocal
import HandS.TupSets
import HandS.MakeKwOnly
import HandS.FStr
import PySem.Challenge.RW_museumloans_k20_desks
set_option Elab.async false
set_option linter.all false
set_option maxRecDepth 100000
set_option maxHeartbeats 4000000
namespace PL
open PySem PySem.Spec PyProof.Rows L2

abbrev Sg := L2.St
/-! ## heaps, masks -/
def Ex (H H' : Hp) : Prop := ∀ a o, H a = some o → H' a = some o
theorem Ex.refl (H : Hp) : Ex H H := fun _ _ h => h
theorem Ex.trans {H H1 H2 : Hp} (a : Ex H H1) (b : Ex H1 H2) : Ex H H2 := fun x o h => b x o (a x o h)
theorem Ex.new {H : Hp} {p : Addr} {o : HO} (h : H p = none) : Ex H (upd H p o) := fun a u e => by
  rw [upd_ne (ne_of_none e h)]
  exact e
def msk (O : List Addr) (H : Hp) : Hp := fun a => if a ∈ O then none else H a
theorem msk_in {O : List Addr} {H : Hp} {a : Addr} (h : a ∈ O) : msk O H a = none := if_pos h
theorem msk_out {O : List Addr} {H : Hp} {a : Addr} (h : a ∉ O) : msk O H a = H a := if_neg h
theorem msk_some {O : List Addr} {H : Hp} {a : Addr} {o : HO} (h : msk O H a = some o) : a ∉ O ∧ H a = some o := by
  by_cases c : a ∈ O
  · rw [msk_in c] at h; cases h
  · rw [msk_out c] at h; exact ⟨c, h⟩
theorem msk_nil (H : Hp) : msk [] H = H := by
  funext a
  exact msk_out (by simp)
theorem Ex.msk {O : List Addr} {H H' : Hp} (e : Ex H H') : Ex (msk O H) (msk O H') := fun a o h => by
  obtain ⟨h1, h2⟩ := msk_some h
  rw [msk_out h1]
  exact e a o h2
theorem Ex.unmsk {O : List Addr} {H : Hp} : Ex (PL.msk O H) H := fun a o h => (msk_some h).2
theorem Ex.mskSub {O O' : List Addr} {H : Hp} (h : ∀ a ∈ O', a ∈ O) : Ex (PL.msk O H) (PL.msk O' H) := fun a o e => by
  obtain ⟨h1, h2⟩ := msk_some e
  rw [msk_out fun z => h1 (h a z)]
  exact h2
/-- what is masked is allocated -/
def Al (O : List Addr) (H : Hp) : Prop := ∀ a ∈ O, H a ≠ none
theorem Al.ex {O : List Addr} {H H' : Hp} (a : Al O H) (e : Ex H H') : Al O H' := fun b hb z => by
  cases q : H b with
  | none => exact a b hb q
  | some o => rw [e b o q] at z; cases z
theorem Al.out {O : List Addr} {H : Hp} {p : Addr} (a : Al O H) (h : H p = none) : p ∉ O := fun z => a p z h
theorem msk_upd {O : List Addr} {H : Hp} {p : Addr} {o : HO} (h : p ∉ O) : msk O (upd H p o) p = some o := by
  rw [msk_out h, upd_same]

/-! ## data in a heap -/
abbrev big : Nat := 4096
theorem big_line : big < sizeLine := by decide
theorem le_line {n : Nat} (h : n ≤ big) : n ≤ sizeLine := Nat.le_of_lt (Nat.lt_of_le_of_lt h big_line)
mutual
inductive Rp (H : Hp) : V → PyData → Prop
  | non : Rp H .non .none
  | bl (b : Bool) : Rp H (.bl b) (.bool b)
  | int (i : Int) : Rp H (.int i) (.int i)
  | str (x : Str) : x.length ≤ big → Rp H (.str x) (.str x)
  | lst {a : Addr} {xs : List V} {ds : List PyData} : H a = some (.lst xs) → ds.length ≤ big → RpA H xs ds → Rp H (.ref a) (.list ds)
  | tup {a : Addr} {xs : List V} {ds : List PyData} : H a = some (.tup xs) → ds.length ≤ big → RpA H xs ds → Rp H (.ref a) (.tuple ds)
inductive RpA (H : Hp) : List V → List PyData → Prop
  | nil : RpA H [] []
  | cons {v : V} {vs : List V} {d : PyData} {ds : List PyData} : Rp H v d → RpA H vs ds → RpA H (v :: vs) (d :: ds)
end
section
variable {H H' : Hp}
mutual
theorem Rp.ex (e : Ex H H') : ∀ (d : PyData) (v : V), Rp H v d → Rp H' v d
  | .none, _, h => by cases h; exact .non
  | .bool b, _, h => by cases h; exact .bl b
  | .int i, _, h => by cases h; exact .int i
  | .str x, _, h => by cases h with | str _ l => exact .str x l
  | .list ds, _, h => by cases h with | lst h1 h2 h3 => exact .lst (e _ _ h1) h2 (RpA.ex e ds _ h3)
  | .tuple ds, _, h => by cases h with | tup h1 h2 h3 => exact .tup (e _ _ h1) h2 (RpA.ex e ds _ h3)
  | .dict _, _, h => by cases h
theorem RpA.ex (e : Ex H H') : ∀ (ds : List PyData) (vs : List V), RpA H vs ds → RpA H' vs ds
  | [], _, h => by cases h; exact .nil
  | d :: ds, _, h => by cases h with | cons h1 h2 => exact .cons (Rp.ex e d _ h1) (RpA.ex e ds _ h2)
end
mutual
theorem Rp.dp {K : PySem.W.Frag} : ∀ (d : PyData) (v : V), Rp H v d → Dp K H v d
  | .none, _, h => by cases h; exact .non
  | .bool b, _, h => by cases h; exact .bl b
  | .int i, _, h => by cases h; exact .int i
  | .str x, _, h => by cases h; exact .str x
  | .list ds, _, h => by cases h with | lst h1 h2 h3 => exact .lst (.inl (.inl h1)) (RpA.dp ds _ h3)
  | .tuple ds, _, h => by cases h with | tup h1 h2 h3 => exact .tup (.inl (.inl h1)) (RpA.dp ds _ h3)
  | .dict _, _, h => by cases h
theorem RpA.dp {K : PySem.W.Frag} : ∀ (ds : List PyData) (vs : List V), RpA H vs ds → DpAll K H vs ds
  | [], _, h => by cases h; exact .nil
  | d :: ds, _, h => by cases h with | cons h1 h2 => exact .cons (Rp.dp d _ h1) (RpA.dp ds _ h2)
end
theorem Rp.mono {v : V} {d : PyData} (h : Rp H v d) (e : Ex H H') : Rp H' v d := Rp.ex e d v h
theorem RpA.mono {vs : List V} {ds : List PyData} (h : RpA H vs ds) (e : Ex H H') : RpA H' vs ds := RpA.ex e ds vs h
theorem RpA.len : ∀ {vs : List V} {ds : List PyData}, RpA H vs ds → vs.length = ds.length
  | _, [], h => by cases h; rfl
  | _, d :: ds, h => by
    cases h with
    | cons h1 h2 => rw [List.length_cons, List.length_cons, RpA.len h2]
theorem RpA.append : ∀ {vs ws : List V} {ds es : List PyData}, RpA H vs ds → RpA H ws es → RpA H (vs ++ ws) (ds ++ es)
  | _, _, [], _, h, h' => by cases h; exact h'
  | _, _, d :: ds, _, h, h' => by
    cases h with
    | cons h1 h2 => exact .cons h1 (RpA.append h2 h')
theorem RpA.get : ∀ {vs : List V} {ds : List PyData} {i : Nat} {d : PyData}, RpA H vs ds → ds[i]? = some d → ∃ v, vs[i]? = some v ∧ Rp H v d
  | _, [], _, _, h, e => by simp at e
  | _, d :: ds, 0, _, h, e => by
    cases h with
    | cons h1 h2 =>
      have e' : d = _ := Option.some.inj e
      subst e'
      exact ⟨_, rfl, h1⟩
  | _, d :: ds, i + 1, x, h, e => by
    cases h with
    | cons h1 h2 =>
      obtain ⟨v, q1, q2⟩ := RpA.get (i := i) (d := x) h2 (by simpa using e)
      exact ⟨v, by simpa using q1, q2⟩
theorem RpA.getV : ∀ {vs : List V} {ds : List PyData} {i : Nat} {v : V}, RpA H vs ds → vs[i]? = some v → ∃ d, ds[i]? = some d ∧ Rp H v d
  | _, [], _, _, h, e => by cases h; simp at e
  | _, d :: ds, 0, _, h, e => by
    cases h with
    | cons h1 h2 =>
      have e' := Option.some.inj e
      subst e'
      exact ⟨_, rfl, h1⟩
  | _, d :: ds, i + 1, x, h, e => by
    cases h with
    | cons h1 h2 =>
      obtain ⟨v, q1, q2⟩ := RpA.getV (i := i) (v := x) h2 (by simpa using e)
      exact ⟨v, by simpa using q1, q2⟩
theorem RpA.drop : ∀ {vs : List V} {ds : List PyData} (n : Nat), RpA H vs ds → RpA H (vs.drop n) (ds.drop n)
  | _, _, 0, h => h
  | _, [], n + 1, h => by cases h; exact .nil
  | _, d :: ds, n + 1, h => by cases h with | cons h1 h2 => exact RpA.drop n h2
theorem RpA.take : ∀ {vs : List V} {ds : List PyData} (n : Nat), RpA H vs ds → RpA H (vs.take n) (ds.take n)
  | _, _, 0, h => .nil
  | _, [], n + 1, h => by cases h; exact .nil
  | _, d :: ds, n + 1, h => by cases h with | cons h1 h2 => exact .cons h1 (RpA.take n h2)
theorem RpA.ints : ∀ {vs : List V} {ns : List Int}, RpA H vs (ns.map PyData.int) → vs = ns.map V.int
  | _, [], h => by cases h; rfl
  | _, n :: ns, h => by
    cases h with
    | cons h1 h2 => cases h1; rw [RpA.ints h2]; rfl
theorem RpA.bools : ∀ {vs : List V} {ns : List Bool}, RpA H vs (ns.map PyData.bool) → vs = ns.map V.bl
  | _, [], h => by cases h; rfl
  | _, n :: ns, h => by
    cases h with
    | cons h1 h2 => cases h1; rw [RpA.bools h2]; rfl
end

/-! ## slots -/
/-- a thing that may change, at fixed places -/
structure Mt where
  fp : List Addr
  P : Hp → Hp → V → Prop
  mono : ∀ {Hm Hm' H H' : Hp} {v : V}, P Hm H v → Ex Hm Hm' → (∀ a ∈ fp, H' a = H a) → P Hm' H' v
  al : ∀ {Hm H : Hp} {v : V}, P Hm H v → ∀ a ∈ fp, H a ≠ none
inductive SD where
  | un
  | dat (d : PyData)
  | own (ds : List PyData)
  | mt (m : Mt)
inductive Sl (Hm H : Hp) : List SD → Sg → List Addr → Prop
  | nil : Sl Hm H [] [] []
  | un {ρ : List SD} {σ : Sg} {as : List Addr} {x : Option V} : Sl Hm H ρ σ as → Sl Hm H (.un :: ρ) (x :: σ) as
  | dat {ρ : List SD} {σ : Sg} {as : List Addr} {v : V} {d : PyData} : Rp Hm v d → Sl Hm H ρ σ as → Sl Hm H (.dat d :: ρ) (some v :: σ) as
  | own {ρ : List SD} {σ : Sg} {as : List Addr} {a : Addr} {xs : List V} {ds : List PyData} : H a = some (.lst xs) → ds.length ≤ big → RpA Hm xs ds → a ∉ as → Sl Hm H ρ σ as → Sl Hm H (.own ds :: ρ) (some (.ref a) :: σ) (a :: as)
  | mt {ρ : List SD} {σ : Sg} {as : List Addr} {v : V} {m : Mt} : m.P Hm H v → (∀ a ∈ m.fp, a ∉ as) → Sl Hm H ρ σ as → Sl Hm H (.mt m :: ρ) (some v :: σ) (m.fp ++ as)
section
variable {Hm Hm' H H' : Hp}
theorem Sl.len {ρ : List SD} {σ : Sg} {as : List Addr} (h : Sl Hm H ρ σ as) : σ.length = ρ.length := by
  induction h with
  | nil => rfl
  | un _ ih => simp [ih]
  | dat _ _ ih => simp [ih]
  | own _ _ _ _ _ ih => simp [ih]
  | mt _ _ _ ih => simp [ih]
theorem Sl.al {ρ : List SD} {σ : Sg} {as : List Addr} (h : Sl Hm H ρ σ as) : ∀ a ∈ as, H a ≠ none := by
  induction h with
  | nil => intro a ha; simp at ha
  | un _ ih => exact ih
  | dat _ _ ih => exact ih
  | own h1 _ _ _ _ ih =>
    intro b hb
    rcases List.mem_cons.mp hb with e | hb
    · rw [e, h1]; exact fun z => nomatch z
    · exact ih b hb
  | mt h1 _ _ ih =>
    intro b hb
    rcases List.mem_append.mp hb with hb | hb
    · exact Mt.al _ h1 b hb
    · exact ih b hb
theorem Sl.mono {ρ : List SD} {σ : Sg} {as : List Addr} (h : Sl Hm H ρ σ as) (e : Ex Hm Hm') (k : ∀ a ∈ as, H' a = H a) : Sl Hm' H' ρ σ as := by
  induction h with
  | nil => exact .nil
  | un _ ih => exact .un (ih k)
  | dat r _ ih => exact .dat (r.mono e) (ih k)
  | own h1 h2 h3 h4 _ ih =>
    refine .own ?_ h2 (h3.mono e) h4 (ih fun b hb => k b (List.mem_cons_of_mem _ hb))
    rw [k _ List.mem_cons_self]
    exact h1
  | mt h1 h2 _ ih =>
    exact .mt (Mt.mono _ h1 e fun a ha => k a (List.mem_append_left _ ha)) h2 (ih fun b hb => k b (List.mem_append_right _ hb))
theorem Sl.get {ρ : List SD} {σ : Sg} {as : List Addr} (h : Sl Hm H ρ σ as) : ∀ {i : Nat} {d : PyData}, ρ[i]? = some (.dat d) → ∃ v, σ[i]? = some (some v) ∧ Rp Hm v d := by
  induction h with
  | nil => intro i d e; simp at e
  | un _ ih =>
    intro i d e
    cases i with
    | zero => simp at e
    | succ i => simpa using ih (by simpa using e)
  | dat r _ ih =>
    intro i d e
    cases i with
    | zero =>
      have e' := SD.dat.inj (Option.some.inj (by simpa using e))
      subst e'
      exact ⟨_, rfl, r⟩
    | succ i => simpa using ih (by simpa using e)
  | own _ _ _ _ _ ih =>
    intro i d e
    cases i with
    | zero => simp at e
    | succ i => simpa using ih (by simpa using e)
  | mt _ _ _ ih =>
    intro i d e
    cases i with
    | zero => simp at e
    | succ i => simpa using ih (by simpa using e)
theorem Sl.getM {ρ : List SD} {σ : Sg} {as : List Addr} (h : Sl Hm H ρ σ as) : ∀ {i : Nat} {m : Mt}, ρ[i]? = some (.mt m) → ∃ v, σ[i]? = some (some v) ∧ m.P Hm H v ∧ ∀ a ∈ m.fp, a ∈ as := by
  induction h with
  | nil => intro i d e; simp at e
  | un _ ih =>
    intro i d e
    cases i with
    | zero => simp at e
    | succ i => simpa using ih (by simpa using e)
  | dat r _ ih =>
    intro i d e
    cases i with
    | zero => simp at e
    | succ i => simpa using ih (by simpa using e)
  | own _ _ _ _ _ ih =>
    intro i d e
    cases i with
    | zero => simp at e
    | succ i =>
      obtain ⟨v, h1, h2, h3⟩ := ih (i := i) (m := d) (by simpa using e)
      exact ⟨v, by simpa using h1, h2, fun a ha => List.mem_cons_of_mem _ (h3 a ha)⟩
  | mt q _ _ ih =>
    intro i d e
    cases i with
    | zero =>
      have e' := SD.mt.inj (Option.some.inj (by simpa using e))
      subst e'
      exact ⟨_, rfl, q, fun a ha => List.mem_append_left _ ha⟩
    | succ i =>
      obtain ⟨v, h1, h2, h3⟩ := ih (i := i) (m := d) (by simpa using e)
      exact ⟨v, by simpa using h1, h2, fun a ha => List.mem_append_right _ (h3 a ha)⟩
end

/-- the state: F stays; O0: the callers' own places; O1: this def's own places -/
structure SA (F : Hp) (O0 O1 : List Addr) (ρ : List SD) (σ : Sg) (H : Hp) : Prop where
  fr : Ex F H
  sl : Sl (msk (O1 ++ O0) H) H ρ σ O1
  new : ∀ a ∈ O1, F a = none ∧ a ∉ O0
  al0 : Al O0 H
section
variable {F H H' : Hp} {O0 O1 : List Addr} {ρ : List SD} {σ : Sg}
theorem SA.al (s : SA F O0 O1 ρ σ H) : Al (O1 ++ O0) H := fun a ha => (List.mem_append.mp ha).elim (fun z => s.sl.al a z) fun z => s.al0 a z
theorem SA.ex (s : SA F O0 O1 ρ σ H) (e : Ex H H') : SA F O0 O1 ρ σ H' := by
  refine ⟨s.fr.trans e, s.sl.mono e.msk fun a ha => ?_, s.new, s.al0.ex e⟩
  cases q : H a with
  | none => exact absurd q (s.sl.al a ha)
  | some o => exact e a o q
end
end PL

namespace PL
open PySem PySem.Spec PyProof.Rows L2

/-! ## canonical readings -/
def tP (ρ : List SD) (D : PyData → Prop) : TE := fun σ H Q => ∃ F O0 O1, SA F O0 O1 ρ σ H ∧
  ∀ v d H', SA F O0 O1 ρ σ H' → Ex (msk (O1 ++ O0) H) (msk (O1 ++ O0) H') → D d → Rp (msk (O1 ++ O0) H') v d → Q v H'
def tT (ρ : List SD) (B : Bool → Prop) : TT := fun σ H Q => ∃ F O0 O1, SA F O0 O1 ρ σ H ∧
  ∀ b H', SA F O0 O1 ρ σ H' → Ex (msk (O1 ++ O0) H) (msk (O1 ++ O0) H') → B b → Q b H'
def tAs (ρ : List SD) (D : List PyData → Prop) : TA := fun σ H Q => ∃ F O0 O1, SA F O0 O1 ρ σ H ∧
  ∀ vs ds H', SA F O0 O1 ρ σ H' → Ex (msk (O1 ++ O0) H) (msk (O1 ++ O0) H') → D ds → RpA (msk (O1 ++ O0) H') vs ds → Q vs H'
abbrev EvN (X : Cx) (ρ : List SD) (e : Expr) (D : PyData → Prop) : Prop := PE X e (tP ρ D)
abbrev Ev (X : Cx) (ρ : List SD) (e : Expr) (d : PyData) : Prop := PE X e (tP ρ (Eq d))
abbrev EvT (X : Cx) (ρ : List SD) (e : Expr) (b : Bool) : Prop := PT X e (tT ρ (Eq b))
abbrev EvA (X : Cx) (ρ : List SD) (es : List Expr) (ds : List PyData) : Prop := PA X es (tAs ρ (Eq ds))
abbrev EvAN (X : Cx) (ρ : List SD) (es : List Expr) (D : List PyData → Prop) : Prop := PA X es (tAs ρ D)

section
variable {X : Cx} {e : Expr}
theorem pe_imp {t t' : TE} (h : PE X e t) (k : ∀ σ H Q, t' σ H Q → t σ H Q) : PE X e t' := ⟨fun pins s σ H Q I q => h.run pins s σ H Q I (k σ H Q q)⟩
theorem pt_imp {t t' : TT} (h : PT X e t) (k : ∀ σ H Q, t' σ H Q → t σ H Q) : PT X e t' := ⟨fun pins s σ H Q I q => h.run pins s σ H Q I (k σ H Q q)⟩
theorem pw_imp {t t' : TT} (h : PW X e t) (k : ∀ σ H Q, t' σ H Q → t σ H Q) : PW X e t' := ⟨fun wh pins s σ H Q I q => h.run wh pins s σ H Q I (k σ H Q q)⟩
theorem pa_imp {es : List Expr} {t t' : TA} (h : PA X es t) (k : ∀ σ H Q, t' σ H Q → t σ H Q) : PA X es t' := ⟨fun pos pins s σ H Q I q => h.run pos pins s σ H Q I (k σ H Q q)⟩
theorem pts_imp {es : List Expr} {t t' : TT} (h : PTs X es t) (k : ∀ σ H Q, t' σ H Q → t σ H Q) : PTs X es t' := ⟨fun pins s σ H Q I q => h.run pins s σ H Q I (k σ H Q q)⟩
theorem pi_imp {tg : Expr} {t t' : TI} (h : PI X tg e t) (k : ∀ σ H Q, t' σ H Q → t σ H Q) : PI X tg e t' := ⟨fun pins s σ H Q I q => h.run pins s σ H Q I (k σ H Q q)⟩
theorem pg_imp {t t' : TG} (h : PG X e t) (k : ∀ v σ H Q, t' v σ H Q → t v σ H Q) : PG X e t' := ⟨fun pins s σ H v u Q I r q => h.run pins s σ H v u Q I r (k v σ H Q q)⟩
theorem ps_imp {st : Stmt} {t t' : TS} (h : PS X st t) (k : ∀ D σ H, t' D σ H → t D σ H) : PS X st t' := ⟨fun pins s σ H D I q => h.run pins s σ H D I (k D σ H q)⟩
theorem pss_imp {st : List Stmt} {t t' : TS} (h : PSs X st t) (k : ∀ D σ H, t' D σ H → t D σ H) : PSs X st t' := ⟨fun pins s σ H D I q => h.run pins s σ H D I (k D σ H q)⟩
/-- any of several readings -/
theorem pe_any {ι : Sort _} {p : ι → Prop} {t : ι → TE} (h : ∀ a, p a → PE X e (t a)) : PE X e (fun σ H Q => ∃ a, p a ∧ t a σ H Q) :=
  ⟨fun pins s σ H Q I ⟨a, ha, q⟩ => (h a ha).run pins s σ H Q I q⟩
theorem pts_any {ι : Sort _} {es : List Expr} {p : ι → Prop} {t : ι → TT} (h : ∀ a, p a → PTs X es (t a)) : PTs X es (fun σ H Q => ∃ a, p a ∧ t a σ H Q) :=
  ⟨fun pins s σ H Q I ⟨a, ha, q⟩ => (h a ha).run pins s σ H Q I q⟩
theorem pg_any {ι : Sort _} {p : ι → Prop} {t : ι → TG} (h : ∀ a, p a → PG X e (t a)) : PG X e (fun v σ H Q => ∃ a, p a ∧ t a v σ H Q) :=
  ⟨fun pins s σ H v u Q I r ⟨a, ha, q⟩ => (h a ha).run pins s σ H v u Q I r q⟩
theorem pss_any {ι : Sort _} {st : List Stmt} {p : ι → Prop} {t : ι → TS} (h : ∀ a, p a → PSs X st (t a)) : PSs X st (fun D σ H => ∃ a, p a ∧ t a D σ H) :=
  ⟨fun pins s σ H D I ⟨a, ha, q⟩ => (h a ha).run pins s σ H D I q⟩

/-! ## what may follow a value -/
/-- behind an operation on values over H: whatever of D comes, over a grown heap -/
def Kt (O : List Addr) (H : Hp) (D : PyData → Prop) (Q : VK) : Prop := ∀ v d H', Ex H H' → D d → Rp (msk O H') v d → Q v H'
theorem Kt.here {O : List Addr} {H : Hp} {D : PyData → Prop} {Q : VK} {v : V} {d : PyData} (k : Kt O H D Q) (hd : D d) (r : Rp (msk O H) v d) : Q v H := k v d H (Ex.refl H) hd r
theorem Kt.tup {O : List Addr} {H : Hp} {D : PyData → Prop} {Q : VK} {xs : List V} {ds : List PyData} (k : Kt O H D Q) (al : Al O H) (hd : D (.tuple ds)) (hl : ds.length ≤ big) (r : RpA (msk O H) xs ds) :
    ∀ p, H p = none → Q (.ref p) (upd H p (.tup xs)) := fun p hp =>
  k _ _ _ (Ex.new hp) hd (.tup (msk_upd (al.out hp)) hl (r.mono (Ex.new hp).msk))
theorem Kt.lst {O : List Addr} {H : Hp} {D : PyData → Prop} {Q : VK} {xs : List V} {ds : List PyData} (k : Kt O H D Q) (al : Al O H) (hd : D (.list ds)) (hl : ds.length ≤ big) (r : RpA (msk O H) xs ds) :
    ∀ p, H p = none → Q (.ref p) (upd H p (.lst xs)) := fun p hp =>
  k _ _ _ (Ex.new hp) hd (.lst (msk_upd (al.out hp)) hl (r.mono (Ex.new hp).msk))
/-- two-place operations, calls on data -/
def OpD (r : R2) (da db : PyData) (D : PyData → Prop) : Prop := ∀ O H x y Q, Al O H → Rp (msk O H) x da → Rp (msk O H) y db → Kt O H D Q → r x y H Q
def CD (r : List V → Hp → VK → Prop) (ds : List PyData) (D : PyData → Prop) : Prop := ∀ O H xs Q, Al O H → RpA (msk O H) xs ds → Kt O H D Q → r xs H Q
def UnD (r : V → Hp → VK → Prop) (da : PyData) (D : PyData → Prop) : Prop := ∀ O H x Q, Al O H → Rp (msk O H) x da → Kt O H D Q → r x H Q

section
variable {ρ : List SD} {F H H1 H2 : Hp} {O0 O1 : List Addr} {σ : Sg} {D : PyData → Prop} {Q : VK}
/-- from the state behind an expression on -/
theorem SA.kt (s : SA F O0 O1 ρ σ H1) (e : Ex (msk (O1 ++ O0) H) (msk (O1 ++ O0) H1))
    (k : ∀ v d H', SA F O0 O1 ρ σ H' → Ex (msk (O1 ++ O0) H) (msk (O1 ++ O0) H') → D d → Rp (msk (O1 ++ O0) H') v d → Q v H') : Kt (O1 ++ O0) H1 D Q := fun v d H' e' hd r =>
  k v d H' (s.ex e') (e.trans e'.msk) hd r
theorem tOp_of {r : R2} {A B : PyData → Prop} (hr : ∀ da db, A da → B db → OpD r da db D) (σ : Sg) (H : Hp) (Q : VK) (h : tP ρ D σ H Q) : tOp r (tP ρ A) (tP ρ B) σ H Q := by
  obtain ⟨F, O0, O1, s, k⟩ := h
  refine ⟨F, O0, O1, s, fun x da H1 s1 e1 ha r1 => ⟨F, O0, O1, s1, fun y db H2 s2 e2 hb r2 => ?_⟩⟩
  exact hr da db ha hb (O1 ++ O0) H2 x y Q s2.al (r1.mono e2) r2 (s2.kt (e1.trans e2) k)
end

/-! ## expressions -/
section
variable {ρ : List SD} {a b c : Expr} {es : List Expr} {da db d : PyData} {A B D : PyData → Prop} {pos p : Pos} {x : Str}
theorem evn_imp (h : EvN X ρ a A) (k : ∀ d, A d → D d) : EvN X ρ a D := pe_imp h fun σ H Q ⟨F, O0, O1, s, q⟩ => ⟨F, O0, O1, s, fun v d H' s' e' hd r => q v d H' s' e' (k d hd) r⟩
theorem ev_eq' (h : Ev X ρ a da) (k : da = db) : Ev X ρ a db := by subst k; exact h
theorem ev_var {i : Nat} (hi : X.N[i]? = some x := by rfl) (hd : ρ[i]? = some (.dat d) := by rfl) (hv : Vis X.env.scope x := by first | exact Or.inl rfl | exact Or.inr (Or.inl rfl) | exact Or.inr (Or.inr rfl)) (h1 : (x == ("__debug__" : Str)) = false := by decide)
    (h2 : (x == ("__classdict__" : Str)) = false := by decide) : Ev X ρ (.Name x pos) d := by
  refine pe_imp (pe_var hi hv h1 h2) fun σ H Q ⟨F, O0, O1, s, q⟩ => ?_
  obtain ⟨v, e1, r⟩ := s.sl.get hd
  exact ⟨v, e1, q v d H s (Ex.refl _) rfl r⟩
theorem tC_of {v : V} (r : ∀ H, Rp H v d) (σ : Sg) (H : Hp) (Q : VK) (h : tP ρ (Eq d) σ H Q) : tC v σ H Q := by
  obtain ⟨F, O0, O1, s, k⟩ := h
  exact k v d H s (Ex.refl _) rfl (r _)
theorem ev_int {i : Int} {j} : Ev X ρ (.Constant (.int i) j pos) (.int i) := pe_imp pe_int (tC_of fun _ => .int i)
theorem ev_bl {i : Bool} {j} : Ev X ρ (.Constant (.bool i) j pos) (.bool i) := pe_imp pe_bl (tC_of fun _ => .bl i)
theorem ev_non {j} : Ev X ρ (.Constant .none j pos) .none := pe_imp pe_non (tC_of fun _ => .non)
theorem ev_str {z : Str} {j} (hl : z.length ≤ big := by decide +kernel) : Ev X ρ (.Constant (.str z) j pos) (.str z) := pe_imp pe_str (tC_of fun _ => .str z hl)
/-- a module's int constant -/
theorem ev_globI {i : Int} {t : Tok} (hg : Gl X x) (hm : X.mg x = some (.int i t)) (hd : (x == ("__debug__" : Str)) = false := by decide) : Ev X ρ (.Name x pos) (.int i) :=
  pe_imp (pe_glob (v := .int i) hg hm ⟨t, rfl⟩ hd) (tC_of fun _ => .int i)

theorem evn_bin {op : Operator} {r : R2} (ho : OpR X (binaryOp op) r) (ha : EvN X ρ a A) (hb : EvN X ρ b B) (hr : ∀ da db, A da → B db → OpD r da db D) : EvN X ρ (.BinOp a op b pos) D :=
  pe_imp (pe_op ho ha hb) (tOp_of hr)
theorem ev_bin {op : Operator} {r : R2} (ho : OpR X (binaryOp op) r) (ha : Ev X ρ a da) (hb : Ev X ρ b db) (hr : OpD r da db (Eq d)) : Ev X ρ (.BinOp a op b pos) d :=
  evn_bin ho ha hb fun _ _ e1 e2 => by subst e1; subst e2; exact hr
/-- ints -/
theorem od_I0 {g : Int → Int → Int} {i j : Int} : OpD (rI0 fun i j => .int (g i j)) (.int i) (.int j) (Eq (.int (g i j))) := fun O H x y Q al hx hy k => by
  cases hx; cases hy
  exact ⟨i, j, rfl, rfl, k.here rfl (.int _)⟩
theorem od_B0 {g : Int → Int → Bool} {i j : Int} : OpD (rI0 fun i j => .bl (g i j)) (.int i) (.int j) (Eq (.bool (g i j))) := fun O H x y Q al hx hy k => by
  cases hx; cases hy
  exact ⟨i, j, rfl, rfl, k.here rfl (.bl _)⟩
theorem od_I {C : Int → Int → Prop} {g : Int → Int → Int} {i j : Int} (hc : C i j) : OpD (rI C fun i j => .int (g i j)) (.int i) (.int j) (Eq (.int (g i j))) := fun O H x y Q al hx hy k => by
  cases hx; cases hy
  exact ⟨i, j, rfl, rfl, hc, k.here rfl (.int _)⟩
section
variable {i j : Int}
theorem ev_add (ha : Ev X ρ a (.int i)) (hb : Ev X ρ b (.int j)) : Ev X ρ (.BinOp a .Add b pos) (.int (i + j)) := ev_bin op_add ha hb od_I0
theorem ev_sub (ha : Ev X ρ a (.int i)) (hb : Ev X ρ b (.int j)) : Ev X ρ (.BinOp a .Sub b pos) (.int (i - j)) := ev_bin op_sub ha hb od_I0
theorem ev_mul (ha : Ev X ρ a (.int i)) (hb : Ev X ρ b (.int j)) (hc : CMul i j) : Ev X ρ (.BinOp a .Mult b pos) (.int (i * j)) := ev_bin op_mul ha hb (od_I hc)
theorem ev_mod (ha : Ev X ρ a (.int i)) (hb : Ev X ρ b (.int j)) (hc : 0 < j) : Ev X ρ (.BinOp a .Mod b pos) (.int (i % j)) := ev_bin op_mod ha hb (od_I (C := fun _ j => 0 < j) hc)
theorem ev_fdiv (ha : Ev X ρ a (.int i)) (hb : Ev X ρ b (.int j)) (hc : CDiv i j) : Ev X ρ (.BinOp a .FloorDiv b pos) (.int (i / j)) := ev_bin op_fdiv ha hb (od_I hc)
theorem ev_neg (ha : Ev X ρ a (.int i)) : Ev X ρ (.UnaryOp .USub a pos) (.int (-i)) := pe_imp (pe_un un_neg ha) fun σ H Q ⟨F, O0, O1, s, k⟩ => ⟨F, O0, O1, s, fun v d H1 s1 e1 hd r => by
  subst hd; cases r
  exact ⟨i, rfl, k _ _ H1 s1 e1 rfl (.int _)⟩⟩
end
/-! comparisons: as a value, as a test -/
theorem ev_cmp {op : CmpOp} {r : R2} (ho : OpR X (compareOp op) r) (ha : Ev X ρ a da) (hb : Ev X ρ b db) (hr : OpD r da db (Eq d)) (hm : behindInMarks op b = false) : Ev X ρ (.Compare a [op] [b] pos) d :=
  pe_imp (pe_cmpR ho ha hb hm) (tOp_of fun _ _ e1 e2 => by subst e1; subst e2; exact hr)
theorem et_cmp {op : CmpOp} {r : R2} {k : Bool} (ho : OpR X (compareOp op) r) (ha : Ev X ρ a da) (hb : Ev X ρ b db) (hr : OpD r da db (Eq (.bool k))) (hm : behindInMarks op b = false) : EvT X ρ (.Compare a [op] [b] pos) k :=
  pt_imp (pt_cmpR ho ha hb hm) fun σ H Q ⟨F, O0, O1, s, q⟩ => tOp_of (D := Eq (.bool k)) (fun _ _ e1 e2 => by subst e1; subst e2; exact hr) σ H _ ⟨F, O0, O1, s, fun v d H' s' e' hd r => by
    subst hd; cases r
    exact ⟨k, rfl, q k H' s' e' rfl⟩⟩
/-- a value that is a bool, as a test -/
theorem et_val {k : Bool} (h : Ev X ρ a (.bool k)) (he : ∀ whole, isTrue a X.env whole = (do let v ← whole; standAt a.pos; holding [v] (truthy v)) := by intro _; rfl) : EvT X ρ a k :=
  pt_imp (pt_val h he) fun σ H Q ⟨F, O0, O1, s, q⟩ => ⟨F, O0, O1, s, fun v d H' s' e' hd r => by
    subst hd; cases r
    exact ⟨k, rfl, q k H' s' e' rfl⟩⟩
theorem et_eq' {k k' : Bool} (h : EvT X ρ a k) (e : k = k') : EvT X ρ a k' := by subst e; exact h
section
variable {i j : Int}
theorem ev_lt (ha : Ev X ρ a (.int i)) (hb : Ev X ρ b (.int j)) : Ev X ρ (.Compare a [.Lt] [b] pos) (.bool (decide (i < j))) := ev_cmp op_lt ha hb od_B0 (nomark _)
theorem ev_le (ha : Ev X ρ a (.int i)) (hb : Ev X ρ b (.int j)) : Ev X ρ (.Compare a [.LtE] [b] pos) (.bool (decide (i ≤ j))) := ev_cmp op_le ha hb od_B0 (nomark _)
theorem ev_gt (ha : Ev X ρ a (.int i)) (hb : Ev X ρ b (.int j)) : Ev X ρ (.Compare a [.Gt] [b] pos) (.bool (decide (j < i))) := ev_cmp op_gt ha hb od_B0 (nomark _)
theorem ev_ge (ha : Ev X ρ a (.int i)) (hb : Ev X ρ b (.int j)) : Ev X ρ (.Compare a [.GtE] [b] pos) (.bool (decide (j ≤ i))) := ev_cmp op_ge ha hb od_B0 (nomark _)
theorem et_lt (ha : Ev X ρ a (.int i)) (hb : Ev X ρ b (.int j)) : EvT X ρ (.Compare a [.Lt] [b] pos) (decide (i < j)) := et_cmp op_lt ha hb od_B0 (nomark _)
theorem et_le (ha : Ev X ρ a (.int i)) (hb : Ev X ρ b (.int j)) : EvT X ρ (.Compare a [.LtE] [b] pos) (decide (i ≤ j)) := et_cmp op_le ha hb od_B0 (nomark _)
theorem et_gt (ha : Ev X ρ a (.int i)) (hb : Ev X ρ b (.int j)) : EvT X ρ (.Compare a [.Gt] [b] pos) (decide (j < i)) := et_cmp op_gt ha hb od_B0 (nomark _)
theorem et_ge (ha : Ev X ρ a (.int i)) (hb : Ev X ρ b (.int j)) : EvT X ρ (.Compare a [.GtE] [b] pos) (decide (j ≤ i)) := et_cmp op_ge ha hb od_B0 (nomark _)
end
/-- == of data -/
theorem od_eq (sa : SeqAt.shaped da = true) (sb : SeqAt.shaped db = true) {K : PySem.W.Frag} : OpD (rEqD K) da db (Eq (.bool (PyData.eqv da db))) := fun O H x y Q al hx hy k =>
  ⟨da, db, (hx.mono Ex.unmsk).dp, (hy.mono Ex.unmsk).dp, sa, sb, k.here rfl (.bl _)⟩
theorem od_ne (sa : SeqAt.shaped da = true) (sb : SeqAt.shaped db = true) {K : PySem.W.Frag} : OpD (rNeD K) da db (Eq (.bool (!PyData.eqv da db))) := fun O H x y Q al hx hy k =>
  ⟨da, db, (hx.mono Ex.unmsk).dp, (hy.mono Ex.unmsk).dp, sa, sb, k.here rfl (.bl _)⟩
section
variable {n : Nat} {k : Bool}
theorem ev_eq (hr : Room n X.A) (ha : Ev X ρ a da) (hb : Ev X ρ b db) (sa : SeqAt.shaped da = true) (sb : SeqAt.shaped db = true) (e : PyData.eqv da db = k) : Ev X ρ (.Compare a [.Eq] [b] pos) (.bool k) := by
  subst e; exact ev_cmp (op_eqD hr.units) ha hb (od_eq sa sb) (nomark _)
theorem ev_ne (hr : Room n X.A) (ha : Ev X ρ a da) (hb : Ev X ρ b db) (sa : SeqAt.shaped da = true) (sb : SeqAt.shaped db = true) (e : (!PyData.eqv da db) = k) : Ev X ρ (.Compare a [.NotEq] [b] pos) (.bool k) := by
  subst e; exact ev_cmp (op_neD hr.units) ha hb (od_ne sa sb) (nomark _)
theorem et_eq (hr : Room n X.A) (ha : Ev X ρ a da) (hb : Ev X ρ b db) (sa : SeqAt.shaped da = true) (sb : SeqAt.shaped db = true) (e : PyData.eqv da db = k) : EvT X ρ (.Compare a [.Eq] [b] pos) k := by
  subst e; exact et_cmp (op_eqD hr.units) ha hb (od_eq sa sb) (nomark _)
theorem et_ne (hr : Room n X.A) (ha : Ev X ρ a da) (hb : Ev X ρ b db) (sa : SeqAt.shaped da = true) (sb : SeqAt.shaped db = true) (e : (!PyData.eqv da db) = k) : EvT X ρ (.Compare a [.NotEq] [b] pos) k := by
  subst e; exact et_cmp (op_neD hr.units) ha hb (od_ne sa sb) (nomark _)
end
def isNoneD : PyData → Bool
  | .none => true
  | _ => false
/-- is None -/
theorem od_isN {K : Bool} (hk : K = isNoneD da) : OpD (fun x y H Q => y = .non ∧ Q (.bl (decide (x = .non))) H) da .none (Eq (.bool K)) := fun O H x y Q al hx hy k => by
  subst hk
  cases hy
  refine ⟨rfl, k.here rfl ?_⟩
  cases hx <;> exact .bl _
theorem od_notN {K : Bool} (hk : K = !isNoneD da) : OpD (fun x y H Q => y = .non ∧ Q (.bl (!decide (x = .non))) H) da .none (Eq (.bool K)) := fun O H x y Q al hx hy k => by
  subst hk
  cases hy
  refine ⟨rfl, k.here rfl ?_⟩
  cases hx <;> exact .bl _
theorem ev_isN {k : Bool} (ha : Ev X ρ a da) (hb : Ev X ρ b .none) (hk : k = isNoneD da) : Ev X ρ (.Compare a [.Is] [b] pos) (.bool k) := ev_cmp op_isN ha hb (od_isN hk) (nomark _)
theorem ev_notN {k : Bool} (ha : Ev X ρ a da) (hb : Ev X ρ b .none) (hk : k = !isNoneD da) : Ev X ρ (.Compare a [.IsNot] [b] pos) (.bool k) := ev_cmp op_notN ha hb (od_notN hk) (nomark _)
theorem et_isN {k : Bool} (ha : Ev X ρ a da) (hb : Ev X ρ b .none) (hk : k = isNoneD da) : EvT X ρ (.Compare a [.Is] [b] pos) k := et_cmp op_isN ha hb (od_isN hk) (nomark _)
theorem et_notN {k : Bool} (ha : Ev X ρ a da) (hb : Ev X ρ b .none) (hk : k = !isNoneD da) : EvT X ρ (.Compare a [.IsNot] [b] pos) k := et_cmp op_notN ha hb (od_notN hk) (nomark _)
/-- chains of two -/
theorem tChain_of {r r' : R2} {dc : PyData} {k1 k2 : Bool} (h1 : OpD r da db (Eq (.bool k1))) (h2 : k1 = true → OpD r' db dc (Eq (.bool k2))) (σ : Sg) (H : Hp) (Q : VK) (h : tP ρ (Eq (.bool (k1 && k2))) σ H Q) :
    tChain r r' (tP ρ (Eq da)) (tP ρ (Eq db)) (tP ρ (Eq dc)) σ H Q := by
  obtain ⟨F, O0, O1, s, k⟩ := h
  refine ⟨F, O0, O1, s, fun x _ H1 s1 e1 ha r1 => ⟨F, O0, O1, s1, fun y _ H2 s2 e2 hb r2 => ?_⟩⟩
  subst ha; subst hb
  refine h1 (O1 ++ O0) H2 x y _ s2.al (r1.mono e2) r2 fun v _ H3 e3 hd r3 => ?_
  subst hd; cases r3
  refine ⟨k1, rfl, ?_⟩
  have s3 := s2.ex e3
  have e13 := (e1.trans e2).trans e3.msk
  cases k1 with
  | false =>
    rw [if_neg Bool.false_ne_true]
    exact k _ _ H3 s3 e13 rfl (.bl _)
  | true =>
    rw [if_pos rfl]
    refine ⟨F, O0, O1, s3, fun z _ H4 s4 e4 hc r4 => ?_⟩
    subst hc
    exact h2 rfl (O1 ++ O0) H4 y z Q s4.al ((r2.mono e3.msk).mono e4) r4 (s4.kt (e13.trans e4) k)
theorem ev_chain {op op' : CmpOp} {r r' : R2} {dc : PyData} {k1 k2 : Bool} (ho : OpR X (compareOp op) r) (ho' : OpR X (compareOp op') r') (ha : Ev X ρ a da) (hb : Ev X ρ b db) (hc : Ev X ρ c dc) (h1 : OpD r da db (Eq (.bool k1)))
    (h2 : k1 = true → OpD r' db dc (Eq (.bool k2))) (hm : lastMarks [op, op'] [b, c] = false := by with_unfolding_all rfl) : Ev X ρ (.Compare a [op, op'] [b, c] pos) (.bool (k1 && k2)) :=
  pe_imp (pe_chain ho ho' ha hb hc hm) (tChain_of h1 h2)
theorem et_chain {op op' : CmpOp} {r r' : R2} {dc : PyData} {k1 k2 : Bool} (ho : OpR X (compareOp op) r) (ho' : OpR X (compareOp op') r') (ha : Ev X ρ a da) (hb : Ev X ρ b db) (hc : Ev X ρ c dc) (h1 : OpD r da db (Eq (.bool k1)))
    (h2 : k1 = true → OpD r' db dc (Eq (.bool k2))) (hm : lastMarks [op, op'] [b, c] = false := by with_unfolding_all rfl) : EvT X ρ (.Compare a [op, op'] [b, c] pos) (k1 && k2) :=
  pt_imp (pt_chain ho ho' ha hb hc hm) fun σ H Q ⟨F, O0, O1, s, q⟩ => tChain_of h1 h2 σ H _ ⟨F, O0, O1, s, fun v d H' s' e' hd r => by
    subst hd; cases r
    exact ⟨_, rfl, q _ H' s' e' rfl⟩⟩
theorem ev_lele {i j l : Int} (ha : Ev X ρ a (.int i)) (hb : Ev X ρ b (.int j)) (hc : Ev X ρ c (.int l)) (hm : lastMarks [.LtE, .LtE] [b, c] = false := by with_unfolding_all rfl) : Ev X ρ (.Compare a [.LtE, .LtE] [b, c] pos) (.bool (decide (i ≤ j) && decide (j ≤ l))) :=
  ev_chain op_le op_le ha hb hc od_B0 (fun _ => od_B0) hm
theorem et_lele {i j l : Int} (ha : Ev X ρ a (.int i)) (hb : Ev X ρ b (.int j)) (hc : Ev X ρ c (.int l)) (hm : lastMarks [.LtE, .LtE] [b, c] = false := by with_unfolding_all rfl) : EvT X ρ (.Compare a [.LtE, .LtE] [b, c] pos) (decide (i ≤ j) && decide (j ≤ l)) :=
  et_chain op_le op_le ha hb hc od_B0 (fun _ => od_B0) hm
/-! and, or, not -/
section
variable {k k1 k2 : Bool} {rest : List Expr}
theorem ew_and1 (ha : EvT X ρ a k) : PW X (.BoolOp .And [a] pos) (tT ρ (Eq k)) := pw_and1 ha
theorem ew_or1 (ha : EvT X ρ a k) : PW X (.BoolOp .Or [a] pos) (tT ρ (Eq k)) := pw_or1 ha
theorem ew_and (ha : EvT X ρ a k1) (hb : k1 = true → PW X (.BoolOp .And (b :: rest) pos) (tT ρ (Eq k2))) : PW X (.BoolOp .And (a :: b :: rest) pos) (tT ρ (Eq (k1 && k2))) := by
  cases k1 with
  | true =>
    refine pw_imp (pw_and ha (hb rfl)) fun σ H Q ⟨F, O0, O1, s, q⟩ => ⟨F, O0, O1, s, fun b H' s' e' hd => ?_⟩
    subst hd
    rw [if_pos rfl]
    exact ⟨F, O0, O1, s', fun b H2 s2 e2 hd => q b H2 s2 (e'.trans e2) (by rw [← hd]; rfl)⟩
  | false =>
    refine ⟨fun wh pins s σ H Q I ⟨F, O0, O1, st, q⟩ => ?_⟩
    refine isTrue_and (thn (ha.run pins s σ H (fun b H' => b = false ∧ Q false H') I ⟨F, O0, O1, st, fun b H' s' e' hd => ⟨hd.symm, q false H' s' e' rfl⟩⟩) fun c s1 ⟨H1, I1, q1⟩ => ?_)
    obtain ⟨rfl, q1⟩ := q1
    exact ⟨H1, I1, q1⟩
theorem ew_or (ha : EvT X ρ a k1) (hb : k1 = false → PW X (.BoolOp .Or (b :: rest) pos) (tT ρ (Eq k2))) : PW X (.BoolOp .Or (a :: b :: rest) pos) (tT ρ (Eq (k1 || k2))) := by
  cases k1 with
  | false =>
    refine pw_imp (pw_or ha (hb rfl)) fun σ H Q ⟨F, O0, O1, s, q⟩ => ⟨F, O0, O1, s, fun b H' s' e' hd => ?_⟩
    subst hd
    rw [if_neg Bool.false_ne_true]
    exact ⟨F, O0, O1, s', fun b H2 s2 e2 hd => q b H2 s2 (e'.trans e2) (by rw [← hd]; rfl)⟩
  | true =>
    refine ⟨fun wh pins s σ H Q I ⟨F, O0, O1, st, q⟩ => ?_⟩
    refine isTrue_or (thn (ha.run pins s σ H (fun b H' => b = true ∧ Q true H') I ⟨F, O0, O1, st, fun b H' s' e' hd => ⟨hd.symm, q true H' s' e' rfl⟩⟩) fun c s1 ⟨H1, I1, q1⟩ => ?_)
    obtain ⟨rfl, q1⟩ := q1
    exact ⟨H1, I1, q1⟩
theorem et_not (ha : EvT X ρ a k) : EvT X ρ (.UnaryOp .Not a pos) (!k) := pt_imp (pt_not ha) fun σ H Q ⟨F, O0, O1, s, q⟩ => ⟨F, O0, O1, s, fun b H' s' e' hd => q (!b) H' s' e' (by rw [hd])⟩
theorem ev_one {op} (h : Ev X ρ a d) : Ev X ρ (.BoolOp op [a] pos) d := pe_one h
/-- the values of and, or: the first one decides -/
theorem ev_and (ha : Ev X ρ a (.bool k1)) (hb : k1 = true → Ev X ρ (.BoolOp .And (b :: rest) pos) (.bool k2)) : Ev X ρ (.BoolOp .And (a :: b :: rest) pos) (.bool (k1 && k2)) := by
  cases k1 with
  | true =>
    refine pe_imp (pe_and ha (hb rfl)) fun σ H Q ⟨F, O0, O1, s, q⟩ => ⟨F, O0, O1, s, fun v d H' s' e' hd r => ?_⟩
    subst hd; cases r
    refine ⟨true, rfl, ?_⟩
    rw [if_pos rfl]
    exact ⟨F, O0, O1, s', fun v d H2 s2 e2 hd r => q v d H2 s2 (e'.trans e2) (by rw [← hd]; rfl) r⟩
  | false =>
    refine ⟨fun pins s σ H Q I ⟨F, O0, O1, st, q⟩ => ?_⟩
    refine BoolOp_and (thn (ha.run pins s σ H (fun v H' => v = .bl false ∧ Q (.bl false) H') I ⟨F, O0, O1, st, fun v d H' s' e' hd r => by subst hd; cases r; exact ⟨rfl, q _ _ H' s' e' rfl (.bl _)⟩⟩) fun v s1 ⟨x, H1, I1, r1, q1⟩ => ?_)
    obtain ⟨rfl, q1⟩ := q1
    cases r1
    exact wpAny_truthy_bool ⟨.bl false, H1, I1, rfl, q1⟩
theorem ev_or (ha : Ev X ρ a (.bool k1)) (hb : k1 = false → Ev X ρ (.BoolOp .Or (b :: rest) pos) (.bool k2)) : Ev X ρ (.BoolOp .Or (a :: b :: rest) pos) (.bool (k1 || k2)) := by
  cases k1 with
  | false =>
    refine pe_imp (pe_or ha (hb rfl)) fun σ H Q ⟨F, O0, O1, s, q⟩ => ⟨F, O0, O1, s, fun v d H' s' e' hd r => ?_⟩
    subst hd; cases r
    refine ⟨false, rfl, ?_⟩
    rw [if_neg Bool.false_ne_true]
    exact ⟨F, O0, O1, s', fun v d H2 s2 e2 hd r => q v d H2 s2 (e'.trans e2) (by rw [← hd]; rfl) r⟩
  | true =>
    refine ⟨fun pins s σ H Q I ⟨F, O0, O1, st, q⟩ => ?_⟩
    refine BoolOp_or (thn (ha.run pins s σ H (fun v H' => v = .bl true ∧ Q (.bl true) H') I ⟨F, O0, O1, st, fun v d H' s' e' hd r => by subst hd; cases r; exact ⟨rfl, q _ _ H' s' e' rfl (.bl _)⟩⟩) fun v s1 ⟨x, H1, I1, r1, q1⟩ => ?_)
    obtain ⟨rfl, q1⟩ := q1
    cases r1
    exact wpAny_truthy_bool ⟨.bl true, H1, I1, rfl, q1⟩
theorem ev_not (ha : Ev X ρ a (.bool k)) : Ev X ρ (.UnaryOp .Not a pos) (.bool (!k)) := pe_imp (pe_not ha) fun σ H Q ⟨F, O0, O1, s, q⟩ => ⟨F, O0, O1, s, fun v d H' s' e' hd r => by
  subst hd; cases r
  exact ⟨k, rfl, q _ _ H' s' e' rfl (.bl _)⟩⟩
theorem ev_if {d' : PyData} (hc : EvT X ρ c k) (ha : k = true → Ev X ρ a d) (hb : k = false → Ev X ρ b d) : Ev X ρ (.IfExp c a b pos) d := by
  cases k with
  | true =>
    refine ⟨fun pins s σ H Q I ⟨F, O0, O1, st, q⟩ => ?_⟩
    refine wpAny_IfExp (thn (hc.run pins s σ H (fun b H' => b = true ∧ tP ρ (Eq d) σ H' Q) I ⟨F, O0, O1, st, fun b H' s' e' hd => ⟨hd.symm, F, O0, O1, s', fun v d H2 s2 e2 => q v d H2 s2 (e'.trans e2)⟩⟩) fun z s1 ⟨H1, I1, q1⟩ => ?_)
    obtain ⟨rfl, q1⟩ := q1
    exact (ha rfl).run pins s1 σ H1 Q I1 q1
  | false =>
    refine ⟨fun pins s σ H Q I ⟨F, O0, O1, st, q⟩ => ?_⟩
    refine wpAny_IfExp (thn (hc.run pins s σ H (fun b H' => b = false ∧ tP ρ (Eq d) σ H' Q) I ⟨F, O0, O1, st, fun b H' s' e' hd => ⟨hd.symm, F, O0, O1, s', fun v d H2 s2 e2 => q v d H2 s2 (e'.trans e2)⟩⟩) fun z s1 ⟨H1, I1, q1⟩ => ?_)
    obtain ⟨rfl, q1⟩ := q1
    exact (hb rfl).run pins s1 σ H1 Q I1 q1
end
/-! argument lists, displays -/
section
variable {ds : List PyData}
theorem ea_nil : EvA X ρ [] [] := pa_imp pa_nil fun σ H Q ⟨F, O0, O1, s, q⟩ => q [] [] H s (Ex.refl _) rfl .nil
theorem ean_cons {E : List PyData → Prop} (ha : EvN X ρ a A) (hr : EvAN X ρ es E) (hs : starEach (a :: es) X.env = (false, eval a X.env) :: starEach es X.env := by rfl) : EvAN X ρ (a :: es) (fun ds => ∃ d r, ds = d :: r ∧ A d ∧ E r) :=
  pa_imp (pa_cons ha hr hs) fun σ H Q ⟨F, O0, O1, s, q⟩ => ⟨F, O0, O1, s, fun v d H1 s1 e1 hd r1 => ⟨F, O0, O1, s1, fun vs ds H2 s2 e2 hds r2 =>
    q (v :: vs) (d :: ds) H2 s2 (e1.trans e2) ⟨d, ds, rfl, hd, hds⟩ (.cons (r1.mono e2) r2)⟩⟩
theorem ean_imp {E E' : List PyData → Prop} (h : EvAN X ρ es E) (k : ∀ ds, E ds → E' ds) : EvAN X ρ es E' := pa_imp h fun σ H Q ⟨F, O0, O1, s, q⟩ => ⟨F, O0, O1, s, fun v d H' s' e' hd r => q v d H' s' e' (k d hd) r⟩
theorem ea_cons (ha : Ev X ρ a d) (hr : EvA X ρ es ds) (hs : starEach (a :: es) X.env = (false, eval a X.env) :: starEach es X.env := by rfl) : EvA X ρ (a :: es) (d :: ds) :=
  ean_imp (ean_cons ha hr hs) fun z ⟨x, y, e, ex, ey⟩ => by subst ex; subst ey; exact e.symm
theorem evn_tup {E : List PyData → Prop} {x1} (h : EvAN X ρ es E) (hl : ∀ ds, E ds → ds.length ≤ big ∧ D (.tuple ds)) : EvN X ρ (.Tuple es x1 pos) D :=
  pe_imp (pe_tup h) fun σ H Q ⟨F, O0, O1, s, q⟩ => ⟨F, O0, O1, s, fun vs ds H1 s1 e1 hd r1 => ⟨by rw [r1.len]; exact le_line (hl ds hd).1, (s1.kt e1 q).tup s1.al (hl ds hd).2 (hl ds hd).1 r1⟩⟩
theorem ev_tup {x1} (h : EvA X ρ es ds) (hl : ds.length ≤ big := by exact Nat.le_of_ble_eq_true rfl) : Ev X ρ (.Tuple es x1 pos) (.tuple ds) := evn_tup h fun z e => by subst e; exact ⟨hl, rfl⟩
theorem ev_lst (h : EvA X ρ es ds) (hl : ds.length ≤ big := by exact Nat.le_of_ble_eq_true rfl) : Ev X ρ (.List es pos) (.list ds) :=
  pe_imp (pe_lst h) fun σ H Q ⟨F, O0, O1, s, q⟩ => ⟨F, O0, O1, s, fun vs ds H1 s1 e1 hd r1 => by
    subst hd
    exact ⟨by rw [r1.len]; exact le_line hl, (s1.kt e1 q).lst s1.al rfl hl r1⟩⟩
end
/-! subscripts -/
theorem atI_rp {H : Hp} {xs : List V} {ds : List PyData} {i : Int} (r : RpA H xs ds) (h : atI ds i = some d) : ∃ v, atI xs i = some v ∧ Rp H v d := by
  unfold atI at h ⊢
  rw [r.len]
  cases q : ixN ds.length i with
  | none => rw [q] at h; cases h
  | some j =>
    rw [q] at h
    obtain ⟨v, h1, h2⟩ := r.get (i := j) h
    exact ⟨v, h1, h2⟩
theorem ev_ix {ds : List PyData} {i : Int} (ha : Ev X ρ a (.tuple ds)) (hb : Ev X ρ b (.int i)) (h : atI ds i = some d) (hs : PlainIx b := by exact fun _ _ => rfl) : Ev X ρ (.Subscript a b pos) d :=
  pe_imp (pe_ix ix_tup ha hb hs) (tOp_of fun da db e1 e2 => by
    subst e1; subst e2
    intro O H x y Q al hx hy k
    cases hy
    cases hx with
    | tup h1 h2 h3 =>
      obtain ⟨v, q1, q2⟩ := atI_rp h3 h
      exact ⟨_, _, i, v, rfl, rfl, SqT.of (msk_some h1).2, q1, k.here rfl q2⟩)
theorem ev_ixL {ds : List PyData} {i : Int} (ha : Ev X ρ a (.list ds)) (hb : Ev X ρ b (.int i)) (h : atI ds i = some d) (hs : PlainIx b := by exact fun _ _ => rfl) : Ev X ρ (.Subscript a b pos) d :=
  pe_imp (pe_ix ix_list ha hb hs) (tOp_of fun da db e1 e2 => by
    subst e1; subst e2
    intro O H x y Q al hx hy k
    cases hy
    cases hx with
    | lst h1 h2 h3 =>
      obtain ⟨v, q1, q2⟩ := atI_rp h3 h
      exact ⟨_, _, i, v, rfl, rfl, SqL.of (msk_some h1).2, q1, k.here rfl q2⟩)
/-! calls of builtins -/
section
variable {ds : List PyData} {bid : String} {r : List V → Hp → VK → Prop} {T : String}
theorem evn_callB {E : List PyData → Prop} (hc : CallR X (.builtin bid) r) (hg : Gl X x) (hm : X.mg x = none) (hv : bootBuiltins x = some (.builtin bid)) (ha : EvAN X ρ (a :: es) E) (hr : ∀ ds, E ds → CD r ds D) (hn : x ≠ "__name__" := by decide) (hdb : (x == ("__debug__" : Str)) = false := by decide)
    (he : starEach (a :: es) X.env = (false, eval a X.env) :: starEach es X.env := by rfl) (hpl : (backTo pos (starEach es X.env)).any (·.1) = false := by rfl) : EvN X ρ (.Call (.Name x p) (a :: es) [] pos) D :=
  pe_imp (pe_callB hc hg hm hv ha hn hdb he hpl) fun σ H Q ⟨F, O0, O1, s, q⟩ => ⟨F, O0, O1, s, fun vs ds H1 s1 e1 hd r1 => hr ds hd _ H1 vs Q s1.al r1 (s1.kt e1 q)⟩
theorem ev_callB (hc : CallR X (.builtin bid) r) (hg : Gl X x) (hm : X.mg x = none) (hv : bootBuiltins x = some (.builtin bid)) (ha : EvA X ρ (a :: es) ds) (hr : CD r ds (Eq d)) (hn : x ≠ "__name__" := by decide) (hdb : (x == ("__debug__" : Str)) = false := by decide)
    (he : starEach (a :: es) X.env = (false, eval a X.env) :: starEach es X.env := by rfl) (hpl : (backTo pos (starEach es X.env)).any (·.1) = false := by rfl) : Ev X ρ (.Call (.Name x p) (a :: es) [] pos) d :=
  evn_callB hc hg hm hv ha (fun _ e => by subst e; exact hr) hn hdb he hpl
theorem evn_callTy {E : List PyData → Prop} (hc : CallR X (.type T) r) (hg : Gl X x) (hm : X.mg x = none) (hv : bootBuiltins x = some (.type T)) (ha : EvAN X ρ (a :: es) E) (hr : ∀ ds, E ds → CD r ds D) (hn : x ≠ "__name__" := by decide) (hdb : (x == ("__debug__" : Str)) = false := by decide)
    (he : starEach (a :: es) X.env = (false, eval a X.env) :: starEach es X.env := by rfl) (hpl : (backTo pos (starEach es X.env)).any (·.1) = false := by rfl) : EvN X ρ (.Call (.Name x p) (a :: es) [] pos) D :=
  pe_imp (pe_callTy hc hg hm hv ha hn hdb he hpl) fun σ H Q ⟨F, O0, O1, s, q⟩ => ⟨F, O0, O1, s, fun vs ds H1 s1 e1 hd r1 => hr ds hd _ H1 vs Q s1.al r1 (s1.kt e1 q)⟩
theorem ev_callTy (hc : CallR X (.type T) r) (hg : Gl X x) (hm : X.mg x = none) (hv : bootBuiltins x = some (.type T)) (ha : EvA X ρ (a :: es) ds) (hr : CD r ds (Eq d)) (hn : x ≠ "__name__" := by decide) (hdb : (x == ("__debug__" : Str)) = false := by decide)
    (he : starEach (a :: es) X.env = (false, eval a X.env) :: starEach es X.env := by rfl) (hpl : (backTo pos (starEach es X.env)).any (·.1) = false := by rfl) : Ev X ρ (.Call (.Name x p) (a :: es) [] pos) d :=
  evn_callTy hc hg hm hv ha (fun _ e => by subst e; exact hr) hn hdb he hpl
theorem rpA1 {H : Hp} {xs : List V} (r : RpA H xs [d]) : ∃ v, xs = [v] ∧ Rp H v d := by
  cases r with
  | cons h1 h2 => cases h2; exact ⟨_, rfl, h1⟩
theorem rpA2 {H : Hp} {xs : List V} (r : RpA H xs [d, da]) : ∃ v w, xs = [v, w] ∧ Rp H v d ∧ Rp H w da := by
  cases r with
  | cons h1 h2 =>
    obtain ⟨w, rfl, h3⟩ := rpA1 h2
    exact ⟨_, _, rfl, h1, h3⟩
/-- len of a list, a tuple -/
theorem cd_len {K : PySem.W.Frag} (h : d = .list ds ∨ d = .tuple ds) : CD (fun xs H Q => ∃ p ys, xs = [.ref p] ∧ (SqL K H p ys ∨ SqT K H p ys) ∧ Q (.int ys.length) H) [d] (Eq (.int ds.length)) := fun O H xs Q al r k => by
  obtain ⟨v, rfl, r1⟩ := rpA1 r
  rcases h with rfl | rfl
  · cases r1 with
    | lst h1 h2 h3 => exact ⟨_, _, rfl, .inl (SqL.of (msk_some h1).2), by rw [h3.len]; exact k.here rfl (.int _)⟩
  · cases r1 with
    | tup h1 h2 h3 => exact ⟨_, _, rfl, .inr (SqT.of (msk_some h1).2), by rw [h3.len]; exact k.here rfl (.int _)⟩
theorem ev_lenT (hg : Gl X "len") (hm : X.mg "len" = none) (ha : Ev X ρ a (.tuple ds)) (hs : starEach [a] X.env = (false, eval a X.env) :: starEach [] X.env := by rfl) : Ev X ρ (.Call (.Name "len" p) [a] [] pos) (.int ds.length) :=
  ev_callB call_len_seq hg hm PySem.boot_len (ea_cons ha ea_nil hs) (cd_len (.inr rfl)) (by decide) (by decide) hs rfl
theorem ev_lenL (hg : Gl X "len") (hm : X.mg "len" = none) (ha : Ev X ρ a (.list ds)) (hs : starEach [a] X.env = (false, eval a X.env) :: starEach [] X.env := by rfl) : Ev X ρ (.Call (.Name "len" p) [a] [] pos) (.int ds.length) :=
  ev_callB call_len_seq hg hm PySem.boot_len (ea_cons ha ea_nil hs) (cd_len (.inl rfl)) (by decide) (by decide) hs rfl
/-- tuple(list) -/
theorem cd_tuple {K : PySem.W.Frag} : CD (fun xs H Q => ∃ p ys, xs = [.ref p] ∧ ((SqL K H p ys ∧ ∀ l, H l = none → Q (.ref l) (upd H l (.tup ys))) ∨ (SqT K H p ys ∧ Q (.ref p) H))) [.list ds] (Eq (.tuple ds)) := fun O H xs Q al r k => by
  obtain ⟨v, rfl, r1⟩ := rpA1 r
  cases r1 with
  | lst h1 h2 h3 => exact ⟨_, _, rfl, .inl ⟨SqL.of (msk_some h1).2, k.tup al rfl h2 h3⟩⟩
theorem ev_tupleL (hg : Gl X "tuple") (hm : X.mg "tuple" = none) (ha : Ev X ρ a (.list ds)) (hs : starEach [a] X.env = (false, eval a X.env) :: starEach [] X.env := by rfl) : Ev X ρ (.Call (.Name "tuple" p) [a] [] pos) (.tuple ds) :=
  ev_callTy call_tuple_of hg hm (by decide +kernel) (ea_cons ha ea_nil hs) cd_tuple (by decide) (by decide) hs rfl
/-- sum of ints -/
theorem cd_sum {K : PySem.W.Frag} {ns : List Int} : CD (rSum K) [.list (ns.map PyData.int)] (Eq (.int ns.sum)) := fun O H xs Q al r k => by
  obtain ⟨v, rfl, r1⟩ := rpA1 r
  cases r1 with
  | lst h1 h2 h3 => exact ⟨_, ns, rfl, SqL.of (by rw [← h3.ints]; exact (msk_some h1).2), k.here rfl (.int _)⟩
theorem ev_sum {ns : List Int} (hc : X.calm = true) (hg : Gl X "sum") (hm : X.mg "sum" = none) (ha : Ev X ρ a (.list (ns.map PyData.int))) (hs : starEach [a] X.env = (false, eval a X.env) :: starEach [] X.env := by rfl) : Ev X ρ (.Call (.Name "sum" p) [a] [] pos) (.int ns.sum) :=
  ev_callB (cr_sum hc) hg hm (by decide +kernel) (ea_cons ha ea_nil hs) cd_sum (by decide) (by decide) hs rfl
theorem cd_all {K : PySem.W.Frag} {ns : List Bool} : CD (rAll K) [.list (ns.map PyData.bool)] (Eq (.bool (ns.all id))) := fun O H xs Q al r k => by
  obtain ⟨v, rfl, r1⟩ := rpA1 r
  cases r1 with
  | lst h1 h2 h3 => exact ⟨_, ns, rfl, SqL.of (by rw [← h3.bools]; exact (msk_some h1).2), k.here rfl (.bl _)⟩
theorem cd_any {K : PySem.W.Frag} {ns : List Bool} : CD (rAny K) [.list (ns.map PyData.bool)] (Eq (.bool (ns.any id))) := fun O H xs Q al r k => by
  obtain ⟨v, rfl, r1⟩ := rpA1 r
  cases r1 with
  | lst h1 h2 h3 => exact ⟨_, ns, rfl, SqL.of (by rw [← h3.bools]; exact (msk_some h1).2), k.here rfl (.bl _)⟩
theorem ev_all {ns : List Bool} (hc : X.calm = true) (hg : Gl X "all") (hm : X.mg "all" = none) (ha : Ev X ρ a (.list (ns.map PyData.bool))) (hs : starEach [a] X.env = (false, eval a X.env) :: starEach [] X.env := by rfl) : Ev X ρ (.Call (.Name "all" p) [a] [] pos) (.bool (ns.all id)) :=
  ev_callB (cr_all hc) hg hm (by decide +kernel) (ea_cons ha ea_nil hs) cd_all (by decide) (by decide) hs rfl
theorem ev_any {ns : List Bool} (hc : X.calm = true) (hg : Gl X "any") (hm : X.mg "any" = none) (ha : Ev X ρ a (.list (ns.map PyData.bool))) (hs : starEach [a] X.env = (false, eval a X.env) :: starEach [] X.env := by rfl) : Ev X ρ (.Call (.Name "any" p) [a] [] pos) (.bool (ns.any id)) :=
  ev_callB (cr_any hc) hg hm (by decide +kernel) (ea_cons ha ea_nil hs) cd_any (by decide) (by decide) hs rfl
/-- max, min of ints -/
theorem cd_max {K : PySem.W.Frag} {ns : List Int} {m : Int} (h1 : m ∈ ns) (h2 : ∀ y ∈ ns, y ≤ m) : CD (rMax K) [.list (ns.map PyData.int)] (Eq (.int m)) := fun O H xs Q al r k => by
  obtain ⟨v, rfl, r1⟩ := rpA1 r
  cases r1 with
  | lst q1 q2 q3 => exact ⟨_, ns, rfl, SqL.of (by rw [← q3.ints]; exact (msk_some q1).2), List.length_pos_of_mem h1, fun m' a1 a2 => by
      have e : m = m' := Int.le_antisymm (a2 m h1) (h2 m' a1)
      rw [← e]
      exact k.here rfl (.int _)⟩
theorem cd_min {K : PySem.W.Frag} {ns : List Int} {m : Int} (h1 : m ∈ ns) (h2 : ∀ y ∈ ns, m ≤ y) : CD (rMin K) [.list (ns.map PyData.int)] (Eq (.int m)) := fun O H xs Q al r k => by
  obtain ⟨v, rfl, r1⟩ := rpA1 r
  cases r1 with
  | lst q1 q2 q3 => exact ⟨_, ns, rfl, SqL.of (by rw [← q3.ints]; exact (msk_some q1).2), List.length_pos_of_mem h1, fun m' a1 a2 => by
      have e : m = m' := Int.le_antisymm (h2 m' a1) (a2 m h1)
      rw [← e]
      exact k.here rfl (.int _)⟩
end
/-! tuples and lists joined, cut -/
theorem od_catT {K : PySem.W.Frag} {xs ys : List PyData} (hl : xs.length + ys.length ≤ big) : OpD (rCatA K) (.tuple xs) (.tuple ys) (Eq (.tuple (xs ++ ys))) := fun O H x y Q al hx hy k => by
  cases hx with
  | tup h1 h2 h3 =>
    cases hy with
    | tup g1 g2 g3 =>
      refine ⟨_, _, _, _, rfl, rfl, SqT.of (msk_some h1).2, SqT.of (msk_some g1).2, by rw [h3.len, g3.len]; exact le_line hl, fun e => ?_, fun _ e => ?_, fun _ _ => k.tup al rfl (by rw [List.length_append]; exact hl) (h3.append g3)⟩
      · subst e; cases h3; exact k.here rfl (.tup g1 g2 g3)
      · subst e; cases g3; rw [List.append_nil] at k; exact k.here rfl (.tup h1 h2 h3)
theorem ev_catT {xs ys : List PyData} (ha : Ev X ρ a (.tuple xs)) (hb : Ev X ρ b (.tuple ys)) (hl : xs.length + ys.length ≤ big) : Ev X ρ (.BinOp a .Add b pos) (.tuple (xs ++ ys)) := ev_bin op_catA ha hb (od_catT hl)
theorem od_catL {xs ys : List PyData} (hl : xs.length + ys.length ≤ big) : OpD rCat (.list xs) (.list ys) (Eq (.list (xs ++ ys))) := fun O H x y Q al hx hy k => by
  cases hx with
  | lst h1 h2 h3 =>
    cases hy with
    | lst g1 g2 g3 => exact ⟨_, _, _, _, rfl, rfl, (msk_some h1).2, (msk_some g1).2, by rw [h3.len, g3.len]; exact le_line hl, k.lst al rfl (by rw [List.length_append]; exact hl) (h3.append g3)⟩
theorem ev_catL {xs ys : List PyData} (ha : Ev X ρ a (.list xs)) (hb : Ev X ρ b (.list ys)) (hl : xs.length + ys.length ≤ big) : Ev X ρ (.BinOp a .Add b pos) (.list (xs ++ ys)) := ev_bin op_cat ha hb (od_catL hl)
/-- slices -/
def cutD (xs : List PyData) (lo hi : Option Int) : List PyData := (xs.drop (HT.sIx xs.length 0 lo)).take (HT.sIx xs.length xs.length hi - HT.sIx xs.length 0 lo)
theorem cutD_len (xs : List PyData) (lo hi : Option Int) : (cutD xs lo hi).length ≤ xs.length := by
  unfold cutD
  rw [List.length_take, List.length_drop]
  omega
theorem RpA.cut {H : Hp} {vs : List V} {ds : List PyData} (r : RpA H vs ds) (lo hi : Option Int) : RpA H (cutV vs lo hi) (cutD ds lo hi) := by
  unfold cutV cutD
  rw [r.len]
  exact (r.drop _).take _
def tO (ρ : List SD) (o : Option Int) : TO := fun σ H Q => ∃ F O0 O1, SA F O0 O1 ρ σ H ∧ ∀ H', SA F O0 O1 ρ σ H' → Ex (msk (O1 ++ O0) H) (msk (O1 ++ O0) H') → Q o H'
theorem po_imp {oe : Option Expr} {t t' : TO} (h : PO X oe t) (k : ∀ σ H Q, t' σ H Q → t σ H Q) : PO X oe t' := by
  cases oe with
  | none => exact ⟨fun pins s σ H Q I q => h.run pins s σ H Q I (k σ H Q q)⟩
  | some e => exact ⟨fun pins s σ H Q I q => h.run pins s σ H Q I (k σ H Q q)⟩
theorem eo_none : PO X none (tO ρ none) := po_imp po_none fun σ H Q ⟨F, O0, O1, s, q⟩ => q H s (Ex.refl _)
theorem eo_some {i : Int} (h : Ev X ρ a (.int i)) : PO X (some a) (tO ρ (some i)) := po_imp (po_some h) fun σ H Q ⟨F, O0, O1, s, q⟩ => ⟨F, O0, O1, s, fun v d H' s' e' hd r => by
  subst hd; cases r
  exact ⟨i, rfl, q H' s' e'⟩⟩
theorem tSl_of {r : V → Option Int → Option Int → Hp → VK → Prop} {lo hi : Option Int} (hr : ∀ O H x Q, Al O H → Rp (msk O H) x da → Kt O H D Q → r x lo hi H Q) (σ : Sg) (H : Hp) (Q : VK) (h : tP ρ D σ H Q) : tSl r (tP ρ (Eq da)) (tO ρ lo) (tO ρ hi) σ H Q := by
  obtain ⟨F, O0, O1, s, k⟩ := h
  refine ⟨F, O0, O1, s, fun x _ H1 s1 e1 hd r1 => ⟨F, O0, O1, s1, fun H2 s2 e2 => ⟨F, O0, O1, s2, fun H3 s3 e3 => ?_⟩⟩⟩
  subst hd
  exact hr (O1 ++ O0) H3 x Q s3.al ((r1.mono e2).mono e3) (s3.kt ((e1.trans e2).trans e3) k)
theorem sIx_le (n def_ : Nat) (o : Option Int) (h : def_ ≤ n) : HT.sIx n def_ o ≤ n := by
  unfold HT.sIx
  cases o with
  | none => exact h
  | some i => dsimp only; split <;> omega
theorem ev_slT {xs : List PyData} {lo hi : Option Expr} {l u : Option Int} {p2 : Pos} (ha : Ev X ρ a (.tuple xs)) (hl : PO X lo (tO ρ l)) (hu : PO X hi (tO ρ u)) : Ev X ρ (.Subscript a (.Slice lo hi none p2) pos) (.tuple (cutD xs l u)) :=
  pe_imp (pe_slice sl_tupA ha hl hu) (tSl_of fun O H x Q al hx k => by
    cases hx with
    | tup h1 h2 h3 =>
      refine ⟨_, _, rfl, SqT.of (msk_some h1).2, fun e => ?_, fun _ => k.tup al rfl (Nat.le_trans (cutD_len _ _ _) h2) (h3.cut l u)⟩
      rw [h3.len] at e
      have e2 : cutD xs l u = xs := by
        unfold cutD
        rw [e.1, e.2]
        simp
      rw [e2] at k
      exact k.here rfl (.tup h1 h2 h3))
theorem ev_slL {xs : List PyData} {lo hi : Option Expr} {l u : Option Int} {p2 : Pos} (ha : Ev X ρ a (.list xs)) (hl : PO X lo (tO ρ l)) (hu : PO X hi (tO ρ u)) : Ev X ρ (.Subscript a (.Slice lo hi none p2) pos) (.list (cutD xs l u)) :=
  pe_imp (pe_slice sl_list ha hl hu) (tSl_of fun O H x Q al hx k => by
    cases hx with
    | lst h1 h2 h3 => exact ⟨_, _, rfl, SqL.of (msk_some h1).2, k.lst al rfl (Nat.le_trans (cutD_len _ _ _) h2) (h3.cut l u)⟩)
end
end
end PL

namespace PL
open PySem PySem.Spec PyProof.Rows L2

/-! ## what is walked -/
theorem Ex.into {Fz H2 : Hp} {O : List Addr} (e : Ex Fz H2) (n : ∀ a ∈ O, Fz a = none) : Ex Fz (PL.msk O H2) := fun a o h => by
  rw [msk_out fun z => by rw [n a z] at h; cases h]
  exact e a o h
def Wk (Fz : Hp) (J : It) (ds : List PyData) : Prop := ∀ i H2, Ex Fz H2 →
  (∀ d, ds[i]? = some d → J.go i H2 ∧ ∀ x H3, J.yld i H2 x H3 → Ex H2 H3 ∧ ∀ O, Al O H2 → (∀ a ∈ O, Fz a = none) → Rp (msk O H3) x d) ∧ (ds.length ≤ i → J.stop i H2)
def tIN (ρ : List SD) (E : List PyData → Prop) : TI := fun σ H R => ∃ F O0 O1, SA F O0 O1 ρ σ H ∧
  ∀ ds J H', SA F O0 O1 ρ σ H' → Ex (msk (O1 ++ O0) H) (msk (O1 ++ O0) H') → E ds → ds.length ≤ big → Wk (msk (O1 ++ O0) H') J ds → R J H'
abbrev EvI (X : Cx) (ρ : List SD) (tg e : Expr) (ds : List PyData) : Prop := PI X tg e (tIN ρ (Eq ds))
abbrev EvIN (X : Cx) (ρ : List SD) (tg e : Expr) (E : List PyData → Prop) : Prop := PI X tg e (tIN ρ E)
section
variable {K : PySem.W.Frag} {Fz : Hp} {a b : Addr} {xs ys : List V} {ds es : List PyData}
theorem wk_list (h : Fz a = some (.lst xs)) (r : RpA Fz xs ds) : Wk Fz (Itl K a) ds := fun i H2 e => by
  have h2 : H2 a = some (.lst xs) := e _ _ h
  refine ⟨fun d hd => ?_, fun hl => ⟨xs, SqL.of h2, by rw [r.len]; exact hl⟩⟩
  obtain ⟨v, hv, rv⟩ := r.get hd
  refine ⟨⟨xs, v, SqL.of h2, hv⟩, fun x H3 y => ?_⟩
  obtain ⟨rfl, y⟩ := y
  have e1 := y xs (SqL.of h2)
  rw [hv] at e1
  cases e1
  exact ⟨Ex.refl _, fun O al n => rv.mono (e.into n)⟩
theorem wk_tup (h : Fz a = some (.tup xs)) (r : RpA Fz xs ds) : Wk Fz (Itt K a) ds := fun i H2 e => by
  have h2 : H2 a = some (.tup xs) := e _ _ h
  refine ⟨fun d hd => ?_, fun hl => ⟨xs, SqT.of h2, by rw [r.len]; exact hl⟩⟩
  obtain ⟨v, hv, rv⟩ := r.get hd
  refine ⟨⟨xs, v, SqT.of h2, hv⟩, fun x H3 y => ?_⟩
  obtain ⟨rfl, y⟩ := y
  have e1 := y xs (SqT.of h2)
  rw [hv] at e1
  cases e1
  exact ⟨Ex.refl _, fun O al n => rv.mono (e.into n)⟩
def rangeD (lo : Int) (n : Nat) : List Int := (List.range n).map fun (k : Nat) => lo + (k : Int)
theorem rangeD_len (lo : Int) (n : Nat) : (rangeD lo n).length = n := by simp [rangeD]
theorem wk_range (lo : Int) (n : Nat) : Wk Fz (Itr lo n) ((rangeD lo n).map PyData.int) := fun i H2 e => by
  refine ⟨fun d hd => ?_, fun hl => by
    rw [List.length_map, rangeD_len] at hl
    exact hl⟩
  have hi : i < n := by
    have := (List.getElem?_eq_some_iff.mp hd).1
    rw [List.length_map, rangeD_len] at this
    exact this
  refine ⟨hi, fun x H3 y => ?_⟩
  obtain ⟨rfl, rfl⟩ := y
  rw [rangeD, List.getElem?_map, List.getElem?_map, List.getElem?_range hi] at hd
  cases hd
  exact ⟨Ex.refl _, fun O al n => .int _⟩
/-- the pairs of enumerate -/
def enumD (ds : List PyData) : List PyData := ds.zipIdx.map fun p => .tuple [.int (p.2 : Nat), p.1]
theorem enumD_len (ds : List PyData) : (enumD ds).length = ds.length := by simp [enumD]
theorem enumD_get {i : Nat} {d : PyData} (h : (enumD ds)[i]? = some d) : ∃ d', ds[i]? = some d' ∧ d = .tuple [.int (i : Nat), d'] := by
  rw [enumD, List.getElem?_map, List.getElem?_zipIdx] at h
  cases q : ds[i]? with
  | none => rw [q] at h; cases h
  | some z =>
    rw [q] at h
    refine ⟨z, rfl, ?_⟩
    have h2 := Option.some.inj h
    rw [← h2]
    simp
theorem rp_new2 {O : List Addr} {H2 : Hp} {T : Addr} {x y : V} {d e : PyData} (hT : H2 T = none) (al : Al O H2) (ex : Ex Fz H2) (n : ∀ a ∈ O, Fz a = none) (r1 : Rp Fz x d) (r2 : Rp Fz y e) :
    Rp (msk O (upd H2 T (.tup [x, y]))) (.ref T) (.tuple [d, e]) := by
  have i : Ex Fz (msk O (upd H2 T (.tup [x, y]))) := (ex.trans (Ex.new hT)).into n
  exact .tup (msk_upd (al.out hT)) (show 2 ≤ 4096 by decide) (.cons (r1.mono i) (.cons (r2.mono i) .nil))
theorem wk_enum (h : Fz a = some (.lst xs)) (r : RpA Fz xs ds) : Wk Fz (Ite K a) (enumD ds) := fun i H2 e => by
  have h2 : H2 a = some (.lst xs) := e _ _ h
  refine ⟨fun d hd => ?_, fun hl => ⟨xs, SqL.of h2, by rw [r.len, ← enumD_len]; exact hl⟩⟩
  obtain ⟨d', hd', rfl⟩ := enumD_get hd
  obtain ⟨v, hv, rv⟩ := r.get hd'
  refine ⟨⟨xs, v, SqL.of h2, hv⟩, fun x H3 y => ?_⟩
  obtain ⟨T, x', rfl, hT, rfl, y⟩ := y
  have e1 := y xs (SqL.of h2)
  rw [hv] at e1
  cases e1
  exact ⟨Ex.new hT, fun O al n => rp_new2 hT al e n (.int _) rv⟩
def zipD (ds es : List PyData) : List PyData := List.zipWith (fun d e => .tuple [d, e]) ds es
theorem zipD_len (ds es : List PyData) : (zipD ds es).length = min ds.length es.length := by simp [zipD]
theorem zipD_get {i : Nat} {d : PyData} (h : (zipD ds es)[i]? = some d) : ∃ d' e', ds[i]? = some d' ∧ es[i]? = some e' ∧ d = .tuple [d', e'] := by
  rw [zipD, List.getElem?_zipWith] at h
  cases q : ds[i]? with
  | none => rw [q] at h; cases h
  | some z =>
    cases q' : es[i]? with
    | none => rw [q, q'] at h; cases h
    | some z' =>
      rw [q, q'] at h
      exact ⟨z, z', rfl, rfl, (Option.some.inj h).symm⟩
theorem wk_zipL (h : Fz a = some (.lst xs)) (r : RpA Fz xs ds) (h' : Fz b = some (.lst ys)) (r' : RpA Fz ys es) : Wk Fz (Itz K a b) (zipD ds es) := fun i H2 e => by
  have h2 : H2 a = some (.lst xs) := e _ _ h
  have h3 : H2 b = some (.lst ys) := e _ _ h'
  refine ⟨fun d hd => ?_, fun hl => ⟨xs, ys, SqL.of h2, SqL.of h3, by rw [r.len, r'.len]; rw [zipD_len] at hl; omega⟩⟩
  obtain ⟨d', e', hd', he', rfl⟩ := zipD_get hd
  obtain ⟨v, hv, rv⟩ := r.get hd'
  obtain ⟨u, hu, ru⟩ := r'.get he'
  refine ⟨⟨xs, ys, v, u, SqL.of h2, SqL.of h3, hv, hu⟩, fun x H3 y => ?_⟩
  obtain ⟨T, x', y', rfl, hT, rfl, y1, y2⟩ := y
  have e1 := y1 xs (SqL.of h2)
  have e2 := y2 ys (SqL.of h3)
  rw [hv] at e1
  rw [hu] at e2
  cases e1; cases e2
  exact ⟨Ex.new hT, fun O al n => rp_new2 hT al e n rv ru⟩
theorem wk_zipT (h : Fz a = some (.tup xs)) (r : RpA Fz xs ds) (h' : Fz b = some (.tup ys)) (r' : RpA Fz ys es) : Wk Fz (RZ.ItzT K a b) (zipD ds es) := fun i H2 e => by
  have h2 : H2 a = some (.tup xs) := e _ _ h
  have h3 : H2 b = some (.tup ys) := e _ _ h'
  refine ⟨fun d hd => ?_, fun hl => ⟨xs, ys, SqT.of h2, SqT.of h3, by rw [r.len, r'.len]; rw [zipD_len] at hl; omega⟩⟩
  obtain ⟨d', e', hd', he', rfl⟩ := zipD_get hd
  obtain ⟨v, hv, rv⟩ := r.get hd'
  obtain ⟨u, hu, ru⟩ := r'.get he'
  refine ⟨⟨xs, ys, v, u, SqT.of h2, SqT.of h3, hv, hu⟩, fun x H3 y => ?_⟩
  obtain ⟨T, x', y', rfl, hT, rfl, y1, y2⟩ := y
  have e1 := y1 xs (SqT.of h2)
  have e2 := y2 ys (SqT.of h3)
  rw [hv] at e1
  rw [hu] at e2
  cases e1; cases e2
  exact ⟨Ex.new hT, fun O al n => rp_new2 hT al e n rv ru⟩
end
section
variable {X : Cx} {ρ : List SD} {tg e e2 : Expr} {ds es : List PyData} {p pos : Pos}
theorem ei_list (h : Ev X ρ e (.list ds)) : EvI X ρ tg e ds := pi_imp (pi_list h) fun σ H R ⟨F, O0, O1, s, k⟩ => ⟨F, O0, O1, s, fun v d H1 s1 e1 hd r => by
  subst hd
  cases r with
  | lst h1 h2 h3 => exact ⟨_, rfl, ⟨_, SqL.of (msk_some h1).2⟩, k _ _ H1 s1 e1 rfl h2 (wk_list h1 h3)⟩⟩
theorem ei_tup (h : Ev X ρ e (.tuple ds)) : EvI X ρ tg e ds := pi_imp (pi_tup h) fun σ H R ⟨F, O0, O1, s, k⟩ => ⟨F, O0, O1, s, fun v d H1 s1 e1 hd r => by
  subst hd
  cases r with
  | tup h1 h2 h3 => exact ⟨_, rfl, ⟨_, SqT.of (msk_some h1).2⟩, k _ _ H1 s1 e1 rfl h2 (wk_tup h1 h3)⟩⟩
theorem ein_range1 {E : PyData → Prop} {E' : List PyData → Prop} (hg : Gl X "range") (hm : X.mg "range" = none) (ha : EvN X ρ e E) (hE : ∀ d, E d → ∃ n : Int, d = .int n ∧ n ≤ 4096 ∧ -4096 ≤ n ∧ E' ((rangeD 0 n.toNat).map PyData.int)) (hs : starEach [e] X.env = [(false, eval e X.env)] := by rfl) :
    EvIN X ρ tg (.Call (.Name "range" p) [e] [] pos) E' :=
  pi_imp (pi_range1 hg hm (ean_cons ha ea_nil hs) hs) fun σ H R ⟨F, O0, O1, s, k⟩ => ⟨F, O0, O1, s, fun vs ds H1 s1 e1 hd r => by
    obtain ⟨d, r', rfl, he, rfl⟩ := hd
    obtain ⟨n, rfl, h1, h2, h3⟩ := hE d he
    obtain ⟨v, rfl, r1⟩ := rpA1 r
    cases r1
    exact ⟨n, rfl, by omega, by omega, k _ _ H1 s1 e1 h3 (by rw [List.length_map, rangeD_len]; show n.toNat ≤ 4096; omega) (wk_range 0 n.toNat)⟩⟩
theorem ei_range1 {n : Int} (hg : Gl X "range") (hm : X.mg "range" = none) (ha : Ev X ρ e (.int n)) (h1 : n ≤ 4096 := by omega) (h2 : -4096 ≤ n := by omega) (hs : starEach [e] X.env = [(false, eval e X.env)] := by rfl) :
    EvI X ρ tg (.Call (.Name "range" p) [e] [] pos) ((rangeD 0 n.toNat).map PyData.int) :=
  ein_range1 hg hm ha (fun d hd => ⟨n, hd.symm, h1, h2, rfl⟩) hs
theorem ei_range2 {lo hi : Int} (hg : Gl X "range") (hm : X.mg "range" = none) (ha : Ev X ρ e (.int lo)) (hb : Ev X ρ e2 (.int hi)) (h1 : hi - lo ≤ 4096 := by omega) (h2 : -4096 ≤ lo ∧ lo ≤ 4096 ∧ -4096 ≤ hi ∧ hi ≤ 4096 := by omega)
    (hs : starEach [e, e2] X.env = [(false, eval e X.env), (false, eval e2 X.env)] := by rfl) (hs2 : starEach [e2] X.env = [(false, eval e2 X.env)] := by rfl) :
    EvI X ρ tg (.Call (.Name "range" p) [e, e2] [] pos) ((rangeD lo (hi - lo).toNat).map PyData.int) :=
  pi_imp (pi_range2 hg hm (ea_cons ha (ea_cons hb ea_nil hs2) (by rw [hs, hs2])) hs hs2) fun σ H R ⟨F, O0, O1, s, k⟩ => ⟨F, O0, O1, s, fun vs ds H1 s1 e1 hd r => by
    subst hd
    obtain ⟨v, w, rfl, r1, r2⟩ := rpA2 r
    cases r1; cases r2
    exact ⟨lo, hi, rfl, ⟨by omega, by omega, by omega, by omega⟩, k _ _ H1 s1 e1 rfl (by rw [List.length_map, rangeD_len]; show (hi - lo).toNat ≤ 4096; omega) (wk_range lo _)⟩⟩
theorem ei_enumL {elts : List Expr} {kk : Nat} {tpos : Pos} (hg : Gl X "enumerate") (hm : X.mg "enumerate" = none) (ha : Ev X ρ e (.list ds)) (hs : starEach [e] X.env = [(false, eval e X.env)] := by rfl) :
    EvI X ρ (.Tuple elts kk tpos) (.Call (.Name "enumerate" p) [e] [] pos) (enumD ds) :=
  pi_imp (pi_enum hg hm (ea_cons ha ea_nil hs) hs) fun σ H R ⟨F, O0, O1, s, k⟩ => ⟨F, O0, O1, s, fun vs es H1 s1 e1 hd r => by
    subst hd
    obtain ⟨v, rfl, r1⟩ := rpA1 r
    cases r1 with
    | lst h1 h2 h3 => exact ⟨_, _, rfl, SqL.of (msk_some h1).2, k _ _ H1 s1 e1 rfl (by rw [enumD_len]; exact h2) (wk_enum h1 h3)⟩⟩
theorem ei_zipL {elts : List Expr} {kk : Nat} {tpos : Pos} (hg : Gl X "zip") (hm : X.mg "zip" = none) (ha : Ev X ρ e (.list ds)) (hb : Ev X ρ e2 (.list es))
    (hs : starEach [e, e2] X.env = (false, eval e X.env) :: starEach [e2] X.env := by rfl) (hs2 : starEach [e2] X.env = [(false, eval e2 X.env)] := by rfl) (hpl : (backTo pos (starEach [e2] X.env)).any (·.1) = false := by rfl) :
    EvI X ρ (.Tuple elts kk tpos) (.Call (.Name "zip" p) [e, e2] [] pos) (zipD ds es) :=
  pi_imp (RZ.pi_zipA hg hm (ea_cons ha (ea_cons hb ea_nil hs2) hs) hs hpl) fun σ H R ⟨F, O0, O1, s, k⟩ => ⟨F, O0, O1, s, fun vs zs H1 s1 e1 hd r => by
    subst hd
    obtain ⟨v, w, rfl, r1, r2⟩ := rpA2 r
    cases r1 with
    | lst h1 h2 h3 =>
      cases r2 with
      | lst g1 g2 g3 => exact ⟨_, _, _, _, rfl, .inl ⟨SqL.of (msk_some h1).2, SqL.of (msk_some g1).2, k _ _ H1 s1 e1 rfl (by rw [zipD_len]; omega) (wk_zipL h1 h3 g1 g3)⟩⟩⟩
theorem ei_zipT {elts : List Expr} {kk : Nat} {tpos : Pos} (hg : Gl X "zip") (hm : X.mg "zip" = none) (ha : Ev X ρ e (.tuple ds)) (hb : Ev X ρ e2 (.tuple es))
    (hs : starEach [e, e2] X.env = (false, eval e X.env) :: starEach [e2] X.env := by rfl) (hs2 : starEach [e2] X.env = [(false, eval e2 X.env)] := by rfl) (hpl : (backTo pos (starEach [e2] X.env)).any (·.1) = false := by rfl) :
    EvI X ρ (.Tuple elts kk tpos) (.Call (.Name "zip" p) [e, e2] [] pos) (zipD ds es) :=
  pi_imp (RZ.pi_zipA hg hm (ea_cons ha (ea_cons hb ea_nil hs2) hs) hs hpl) fun σ H R ⟨F, O0, O1, s, k⟩ => ⟨F, O0, O1, s, fun vs zs H1 s1 e1 hd r => by
    subst hd
    obtain ⟨v, w, rfl, r1, r2⟩ := rpA2 r
    cases r1 with
    | tup h1 h2 h3 =>
      cases r2 with
      | tup g1 g2 g3 => exact ⟨_, _, _, _, rfl, .inr ⟨SqT.of (msk_some h1).2, SqT.of (msk_some g1).2, k _ _ H1 s1 e1 rfl (by rw [zipD_len]; omega) (wk_zipT h1 h3 g1 g3)⟩⟩⟩
end

/-! ## targets -/
/-- a slot that holds nothing of the def's own -/
def plainSD : SD → Bool
  | .un => true
  | .dat _ => true
  | _ => false
def plainAt (ρ : List SD) (i : Nat) : Bool := match ρ[i]? with
  | some s => plainSD s
  | none => false
section
variable {Hm H : Hp}
theorem Sl.set {ρ : List SD} {σ : Sg} {as : List Addr} (h : Sl Hm H ρ σ as) : ∀ {i : Nat} {v : V} {d : PyData}, plainAt ρ i = true → Rp Hm v d → Sl Hm H (ρ.set i (.dat d)) (σ.set i (some v)) as := by
  induction h with
  | nil => intro i v d e; simp [plainAt] at e
  | un h ih =>
    intro i v d e r
    cases i with
    | zero => exact .dat r h
    | succ i => exact .un (ih (by simpa [plainAt] using e) r)
  | dat q h ih =>
    intro i v d e r
    cases i with
    | zero => exact .dat r h
    | succ i => exact .dat q (ih (by simpa [plainAt] using e) r)
  | own h1 h2 h3 h4 h ih =>
    intro i v d e r
    cases i with
    | zero => simp [plainAt, plainSD] at e
    | succ i => exact .own h1 h2 h3 h4 (ih (by simpa [plainAt] using e) r)
  | mt h1 h2 h ih =>
    intro i v d e r
    cases i with
    | zero => simp [plainAt, plainSD] at e
    | succ i => exact .mt h1 h2 (ih (by simpa [plainAt] using e) r)
/-- a slot is forgotten -/
theorem Sl.drop {ρ : List SD} {σ : Sg} {as : List Addr} (h : Sl Hm H ρ σ as) : ∀ {i : Nat} {x : Option V}, plainAt ρ i = true → Sl Hm H (ρ.set i .un) (σ.set i x) as := by
  induction h with
  | nil => intro i v e; simp [plainAt] at e
  | un h ih =>
    intro i v e
    cases i with
    | zero => exact .un h
    | succ i => exact .un (ih (by simpa [plainAt] using e))
  | dat q h ih =>
    intro i v e
    cases i with
    | zero => exact .un h
    | succ i => exact .dat q (ih (by simpa [plainAt] using e))
  | own h1 h2 h3 h4 h ih =>
    intro i v e
    cases i with
    | zero => simp [plainAt, plainSD] at e
    | succ i => exact .own h1 h2 h3 h4 (ih (by simpa [plainAt] using e))
  | mt h1 h2 h ih =>
    intro i v e
    cases i with
    | zero => simp [plainAt, plainSD] at e
    | succ i => exact .mt h1 h2 (ih (by simpa [plainAt] using e))
end
def wipeD (ρ : List SD) : List Nat → List SD
  | [] => ρ
  | v :: vs => (wipeD ρ vs).set v .un
theorem plainAt_set {ρ : List SD} {i j : Nat} {s : SD} (h : plainAt ρ i = true) (hs : plainSD s = true) : plainAt (ρ.set j s) i = true := by
  unfold plainAt at h ⊢
  by_cases e : j = i
  · subst e
    rw [List.getElem?_set_self']
    cases q : ρ[j]? with
    | none => rw [q] at h; cases h
    | some z => exact hs
  · rw [List.getElem?_set_ne e]
    exact h
theorem plainAt_wipe {ρ : List SD} {i : Nat} (h : plainAt ρ i = true) : ∀ vs, plainAt (wipeD ρ vs) i = true
  | [] => h
  | v :: vs => plainAt_set (plainAt_wipe h vs) rfl
theorem Sl.wipe {Hm H : Hp} {ρ : List SD} {σ : Sg} {as : List Addr} (h : Sl Hm H ρ σ as) : ∀ {vs : List Nat}, (∀ i ∈ vs, plainAt ρ i = true) → Sl Hm H (wipeD ρ vs) (L2.wipe σ vs) as
  | [], _ => h
  | v :: vs, p => (h.wipe fun i hi => p i (List.mem_cons_of_mem _ hi)).drop (plainAt_wipe (p v List.mem_cons_self) vs)
/-- slots by one relation each -/
theorem Sl.split {Hm H : Hp} {s : SD} {ρ : List SD} {σ : Sg} {as : List Addr} (h : Sl Hm H (s :: ρ) σ as) (p : plainSD s = true) : ∃ x r, σ = x :: r ∧ Sl Hm H ρ r as ∧ ∀ d, s = .dat d → ∃ v, x = some v ∧ Rp Hm v d := by
  cases h with
  | un h => exact ⟨_, _, rfl, h, fun d e => nomatch e⟩
  | dat r h => exact ⟨_, _, rfl, h, fun d e => by cases e; exact ⟨_, rfl, r⟩⟩
  | own _ _ _ _ _ => cases p
  | mt _ _ _ => cases p
theorem Sl.cons1 {Hm H : Hp} {s : SD} {ρ : List SD} {x : Option V} {σ : Sg} {as : List Addr} (p : plainSD s = true) (h : Sl Hm H ρ σ as) (k : ∀ d, s = .dat d → ∃ v, x = some v ∧ Rp Hm v d) : Sl Hm H (s :: ρ) (x :: σ) as := by
  cases s with
  | un => exact .un h
  | dat d =>
    obtain ⟨v, rfl, r⟩ := k d rfl
    exact .dat r h
  | own _ => cases p
  | mt _ => cases p
/-- from the state of one slot less known back -/
theorem Sl.undrop {Hm Hm' H H' : Hp} (e : Ex Hm Hm') : ∀ {ρ : List SD} {σ : Sg} {as as' : List Addr} {i : Nat} {x : Option V}, Sl Hm H ρ σ as → plainAt ρ i = true → Sl Hm' H' (ρ.set i .un) (σ.set i x) as' → Sl Hm' H' ρ σ as'
  | [], _, _, _, i, _, _, p, _ => by simp [plainAt] at p
  | s :: ρ, σ, as, as', 0, x, h, p, h' => by
    have p' : plainSD s = true := p
    obtain ⟨y, r, rfl, h1, k⟩ := h.split p'
    cases h' with
    | un h2 => exact .cons1 p' h2 fun d ed => let ⟨v, e1, r1⟩ := k d ed; ⟨v, e1, r1.mono e⟩
  | s :: ρ, σ, as, as', i + 1, x, h, p, h' => by
    have p1 : plainAt ρ i = true := by simpa [plainAt] using p
    cases h with
    | un h1 =>
      cases h' with
      | un h2 => exact .un (Sl.undrop e h1 p1 h2)
    | dat r h1 =>
      cases h' with
      | dat r' h2 => exact .dat r' (Sl.undrop e h1 p1 h2)
    | own _ _ _ _ h1 =>
      cases h' with
      | own a1 a2 a3 a4 h2 => exact .own a1 a2 a3 a4 (Sl.undrop e h1 p1 h2)
    | mt _ _ h1 =>
      cases h' with
      | mt a1 a2 h2 => exact .mt a1 a2 (Sl.undrop e h1 p1 h2)
theorem Sl.unwipe {Hm Hm' H H' : Hp} (e : Ex Hm Hm') {ρ : List SD} {σ : Sg} {as as' : List Addr} (h : Sl Hm H ρ σ as) : ∀ {vs : List Nat}, (∀ i ∈ vs, plainAt ρ i = true) → Sl Hm' H' (wipeD ρ vs) (L2.wipe σ vs) as' → Sl Hm' H' ρ σ as'
  | [], _, h' => h'
  | v :: vs, p, h' => Sl.unwipe e h (fun i hi => p i (List.mem_cons_of_mem _ hi)) (Sl.undrop e (h.wipe fun i hi => p i (List.mem_cons_of_mem _ hi)) (plainAt_wipe (p v List.mem_cons_self) vs) h')
section
variable {F H H' : Hp} {O0 O1 : List Addr} {ρ ρ' : List SD} {σ σ' : Sg}
theorem SA.set (s : SA F O0 O1 ρ σ H) {i : Nat} {v : V} {d : PyData} (p : plainAt ρ i = true) (r : Rp (msk (O1 ++ O0) H) v d) : SA F O0 O1 (ρ.set i (.dat d)) (σ.set i (some v)) H := ⟨s.fr, s.sl.set p r, s.new, s.al0⟩
theorem SA.drop (s : SA F O0 O1 ρ σ H) {i : Nat} {x : Option V} (p : plainAt ρ i = true) : SA F O0 O1 (ρ.set i .un) (σ.set i x) H := ⟨s.fr, s.sl.drop p, s.new, s.al0⟩
theorem SA.wipe (s : SA F O0 O1 ρ σ H) {vs : List Nat} (p : ∀ i ∈ vs, plainAt ρ i = true) : SA F O0 O1 (wipeD ρ vs) (L2.wipe σ vs) H := ⟨s.fr, s.sl.wipe p, s.new, s.al0⟩
theorem SA.unwipe (s : SA F O0 O1 ρ σ H) {vs : List Nat} (p : ∀ i ∈ vs, plainAt ρ i = true) (e : Ex (msk (O1 ++ O0) H) (msk (O1 ++ O0) H')) (s' : SA F O0 O1 (wipeD ρ vs) (L2.wipe σ vs) H') : SA F O0 O1 ρ σ H' :=
  ⟨s'.fr, s.sl.unwipe e p s'.sl, s'.new, s'.al0⟩
end
/-- a target's reading: from ρ a thing of data d is stored; then ρ'; only the slots js change -/
def tG (ρ : List SD) (d : PyData) (ρ' : List SD) (js : List Nat) : TG := fun v σ H Q => ∃ F O0 O1, SA F O0 O1 ρ σ H ∧ Rp (msk (O1 ++ O0) H) v d ∧ ∀ σ', L2.wipe σ' js = L2.wipe σ js → SA F O0 O1 ρ' σ' H → Q σ' H
abbrev EvG (X : Cx) (tg : Expr) (ρ : List SD) (d : PyData) (ρ' : List SD) (js : List Nat) : Prop := PG X tg (tG ρ d ρ' js)
theorem wipe_set {σ : Sg} {i : Nat} {x : Option V} {js : List Nat} (h : i ∈ js) : L2.wipe (σ.set i x) js = L2.wipe σ js := by
  apply List.ext_getElem?
  intro j
  by_cases hj : j ∈ js
  · have g : ∀ (τ : Sg) (vs : List Nat), j ∈ vs → (L2.wipe τ vs)[j]? = if j < τ.length then some none else none := by
      intro τ vs
      induction vs with
      | nil => intro z; simp at z
      | cons v vs ih =>
        intro z
        show ((L2.wipe τ vs).set v none)[j]? = _
        by_cases e : v = j
        · subst e
          rw [List.getElem?_set_self', ]
          have hl := wipe_length τ vs
          by_cases c : v < τ.length
          · rw [if_pos c, List.getElem?_eq_getElem (by rw [hl]; exact c)]; rfl
          · rw [if_neg c, List.getElem?_eq_none (by rw [hl]; omega)]; rfl
        · rw [List.getElem?_set_ne e]
          exact ih ((List.mem_cons.mp z).resolve_left fun q => e q.symm)
    rw [g _ _ hj, g _ _ hj, List.length_set]
  · rw [wipe_out hj, wipe_out hj]
    exact List.getElem?_set_ne fun e => hj (by rw [← e]; exact h)
section
variable {X : Cx} {ρ ρ1 ρ2 : List SD} {d d1 d2 : PyData} {js : List Nat} {pos : Pos} {t1 t2 : Expr}
theorem eg_name (i : Nat) {x : Str} (hN : X.N.Nodup) (hi : X.N[i]? = some x := by rfl) (hx : Loc X.env.scope x := by first | exact Or.inl rfl | exact Or.inr rfl) (hp : plainAt ρ i = true := by rfl) (hj : decide (i ∈ js) = true := by rfl) (hf : X.fn x = true ∨ X.env.scope.names.lookup x = some .local := by first | exact .inl rfl | exact .inr rfl | assumption) :
    EvG X (.Name x pos) ρ d (ρ.set i (.dat d)) js :=
  pg_imp (pg_name hN hi hx hf) fun v σ H Q ⟨F, O0, O1, s, r, k⟩ => k _ (wipe_set (of_decide_eq_true hj)) (s.set hp r)
/-- several targets, one after the other -/
inductive EvGs (X : Cx) : List Expr → List SD → List PyData → List SD → List Nat → Prop
  | nil {ρ : List SD} {js : List Nat} : EvGs X [] ρ [] ρ js
  | cons {e : Expr} {es : List Expr} {ρ ρ1 ρ2 : List SD} {d : PyData} {ds : List PyData} {js : List Nat} : EvG X e ρ d ρ1 js → EvGs X es ρ1 ds ρ2 js → (assignEach (e :: es) X.env).map (·.2) = assign e X.env :: (assignEach es X.env).map (·.2) → EvGs X (e :: es) ρ (d :: ds) ρ2 js
def tGs (ρ : List SD) (ds : List PyData) (ρ' : List SD) (js : List Nat) : TGs := fun vs σ H Q => ∃ F O0 O1, SA F O0 O1 ρ σ H ∧ RpA (msk (O1 ++ O0) H) vs ds ∧ ∀ σ', L2.wipe σ' js = L2.wipe σ js → SA F O0 O1 ρ' σ' H → Q σ' H
theorem pgs_imp {es : List Expr} {t t' : TGs} (h : PGs X es t) (k : ∀ v σ H Q, t' v σ H Q → t v σ H Q) : PGs X es t' := ⟨fun pins s σ H v u Q I r q => h.run pins s σ H v u Q I r (k v σ H Q q)⟩
theorem EvGs.pgs {es : List Expr} {ρ ρ' : List SD} {ds : List PyData} {js : List Nat} (h : EvGs X es ρ ds ρ' js) : PGs X es (tGs ρ ds ρ' js) := by
  induction h with
  | nil => exact pgs_imp pgs_nil fun vs σ H Q ⟨F, O0, O1, s, r, k⟩ => by cases r; exact ⟨rfl, k σ rfl s⟩
  | cons h1 h2 hs ih =>
    exact pgs_imp (pgs_cons h1 ih hs) fun vs σ H Q ⟨F, O0, O1, s, r, k⟩ => by
      cases r with
      | cons r1 r2 => exact ⟨_, _, rfl, F, O0, O1, s, r1, fun σ' w s' => ⟨F, O0, O1, s', r2, fun σ2 w2 s2 => k σ2 (w2.trans w) s2⟩⟩
theorem eg_tup {es : List Expr} {k : Nat} {ds : List PyData} (hc : X.calm = true) (h : EvGs X es ρ ds ρ1 js) (hn : (assignEach es X.env).length = ds.length := by rfl) (hst : (assignEach es X.env).findIdx? (·.1) = none := by rfl) :
    EvG X (.Tuple es k pos) ρ (.tuple ds) ρ1 js :=
  pg_imp (pg_tup hc h.pgs hn hst) fun v σ H Q ⟨F, O0, O1, s, r, k⟩ => by
    cases r with
    | tup h1 h2 h3 => exact ⟨_, _, rfl, SqT.of (msk_some h1).2, h3.len, F, O0, O1, s, h3, k⟩
end

/-! ## comprehensions -/
/-- an expression that gives a new list (p, known to nobody else) -/
def tF (ρ : List SD) (E : List PyData → Prop) : TE := fun σ H Q => ∃ F O0 O1, SA F O0 O1 ρ σ H ∧
  ∀ p xs ds H', SA F (p :: O0) O1 ρ σ H' → F p = none → p ∉ O1 ++ O0 → H' p = some (.lst xs) → RpA (msk (O1 ++ p :: O0) H') xs ds → ds.length ≤ big → E ds → Ex (msk (O1 ++ O0) H) (msk (O1 ++ p :: O0) H') → Q (.ref p) H'
abbrev EvF (X : Cx) (ρ : List SD) (e : Expr) (E : List PyData → Prop) : Prop := PE X e (tF ρ E)
theorem sub_cons {O0 O1 : List Addr} {p : Addr} : ∀ a ∈ O1 ++ O0, a ∈ O1 ++ p :: O0 := fun a ha => by
  rcases List.mem_append.mp ha with z | z
  · exact List.mem_append_left _ z
  · exact List.mem_append_right _ (List.mem_cons_of_mem _ z)
theorem SA.unmask {F H : Hp} {O0 O1 : List Addr} {ρ : List SD} {σ : Sg} {p : Addr} (s : SA F (p :: O0) O1 ρ σ H) : SA F O0 O1 ρ σ H :=
  ⟨s.fr, s.sl.mono (Ex.mskSub sub_cons) fun a _ => rfl, fun a ha => ⟨(s.new a ha).1, fun z => (s.new a ha).2 (List.mem_cons_of_mem _ z)⟩, fun a ha => s.al0 a (List.mem_cons_of_mem _ ha)⟩
theorem tF_of {ρ : List SD} {E : List PyData → Prop} {D : PyData → Prop} (h : ∀ ds, E ds → D (.list ds)) (σ : Sg) (H : Hp) (Q : VK) (q : tP ρ D σ H Q) : tF ρ E σ H Q := by
  obtain ⟨F, O0, O1, s, k⟩ := q
  refine ⟨F, O0, O1, s, fun p xs ds H' s' hF hp hx r hl hE e => k (.ref p) (.list ds) H' s'.unmask (e.trans (Ex.mskSub sub_cons)) (h ds hE) (.lst ?_ hl (r.mono (Ex.mskSub sub_cons)))⟩
  rw [msk_out hp]
  exact hx
theorem evn_of_f {X : Cx} {ρ : List SD} {e : Expr} {E : List PyData → Prop} {D : PyData → Prop} (h : EvF X ρ e E) (k : ∀ ds, E ds → D (.list ds)) : EvN X ρ e D := pe_imp h (tF_of k)
theorem tLst_f {ρ : List SD} {E : List PyData → Prop} (hl : ∀ ds, E ds → ds.length ≤ big) (σ : Sg) (H : Hp) (Q : VK) (q : tF ρ E σ H Q) : tLst (tAs ρ E) σ H Q := by
  obtain ⟨F, O0, O1, s, k⟩ := q
  refine ⟨F, O0, O1, s, fun vs ds H1 s1 e1 hd r1 => ⟨by rw [r1.len]; exact le_line (hl ds hd), fun p hp => ?_⟩⟩
  have hn : p ∉ O1 ++ O0 := s1.al.out hp
  have hF : F p = none := by
    cases w : F p with
    | none => rfl
    | some o => rw [s1.fr p o w] at hp; cases hp
  have em : Ex (msk (O1 ++ O0) H1) (msk (O1 ++ p :: O0) (upd H1 p (.lst vs))) := fun a u h => by
    obtain ⟨q1, q2⟩ := msk_some h
    have na : a ≠ p := ne_of_none q2 hp
    rw [msk_out fun z => ?_, upd_ne na]
    · exact q2
    · rcases List.mem_append.mp z with z | z
      · exact q1 (List.mem_append_left _ z)
      · rcases List.mem_cons.mp z with z | z
        · exact na z
        · exact q1 (List.mem_append_right _ z)
  refine k p vs ds _ ⟨s1.fr.trans (Ex.new hp), s1.sl.mono em fun a ha => upd_ne fun z => hn (by rw [← z]; exact List.mem_append_left _ ha), fun a ha => ⟨(s1.new a ha).1, fun z => ?_⟩, fun a ha => ?_⟩ hF hn upd_same (r1.mono em) (hl ds hd) hd (e1.trans em)
  · rcases List.mem_cons.mp z with z | z
    · exact hn (by rw [← z]; exact List.mem_append_left _ ha)
    · exact (s1.new a ha).2 z
  · rcases List.mem_cons.mp ha with z | z
    · rw [z, upd_same]; exact fun q => nomatch q
    · exact s1.al0.ex (Ex.new hp) a z
theorem ef_lst {X : Cx} {ρ : List SD} {es : List Expr} {pos : Pos} {E : List PyData → Prop} (h : EvAN X ρ es E) (hl : ∀ ds, E ds → ds.length ≤ big) : EvF X ρ (.List es pos) E := pe_imp (pe_lst h) (tLst_f hl)
section
variable {X : Cx} {ρ : List SD} {elt tg iter : Expr} {ifs : List Expr} {scope : Scope} {own : List (Str × Nat)} {pos : Pos}
/-- the parts of a comprehension: over things that come; whether an item is kept, what is made of it: any answers. Pv: by the turn, what has been made -/
structure Lc (X : Cx) (ρ : List SD) (elt tg iter : Expr) (ifs : List Expr) (scope : Scope) (own : List (Str × Nat)) (E : List PyData → Prop) (B : List PyData → Nat → Bool → Prop) (G : List PyData → Nat → PyData → Prop) (ρ' : List PyData → Nat → List SD) (Pv : List PyData → Nat → List PyData → Prop) : Prop where
  hi : EvIN X ρ tg iter E
  ok : BlkOk X.N X.env.scope scope own
  hp : ∀ i ∈ own.map (·.2), plainAt ρ i = true
  hg : ∀ ds (i : Nat) d, E ds → ds[i]? = some d → ∀ (s : Shared) (H : Hp) (C : Addr) (cl : List (Str × Addr)) (fp : List Addr), EvG (X.blk s H scope (compEnvC scope cl C X.env) fp) tg (wipeD ρ (own.map (·.2))) d (ρ' ds i) (own.map (·.2))
  hw : ∀ ds (i : Nat) d, E ds → ds[i]? = some d → wipeD (ρ' ds i) (own.map (·.2)) = wipeD ρ (own.map (·.2))
  hp' : ∀ ds (i : Nat) d, E ds → ds[i]? = some d → ∀ j ∈ own.map (·.2), plainAt (ρ' ds i) j = true
  ht : ∀ ds (i : Nat) d, E ds → ds[i]? = some d → ∀ (s : Shared) (H : Hp) (C : Addr) (cl : List (Str × Addr)) (fp : List Addr), PTs (X.blk s H scope (compEnvC scope cl C X.env) fp) ifs (tT (ρ' ds i) (B ds i))
  he : ∀ ds (i : Nat) d, E ds → ds[i]? = some d → B ds i true → ∀ (s : Shared) (H : Hp) (C : Addr) (cl : List (Str × Addr)) (fp : List Addr), PE (X.blk s H scope (compEnvC scope cl C X.env) fp) elt (tP (ρ' ds i) (G ds i))
  h0 : ∀ ds, E ds → Pv ds 0 []
  h1 : ∀ ds i es z, E ds → i < ds.length → Pv ds i es → B ds i true → G ds i z → Pv ds (i + 1) (es ++ [z])
  h2 : ∀ ds i es, E ds → i < ds.length → Pv ds i es → B ds i false → Pv ds (i + 1) es
def LcG (ρ : List SD) (own : List (Str × Nat)) (E : List PyData → Prop) (ρ' : List PyData → Nat → List SD) : TG := fun v σ H Q => ∃ a : List PyData × Nat × PyData, (E a.1 ∧ a.1[a.2.1]? = some a.2.2) ∧ tG (wipeD ρ (own.map (·.2))) a.2.2 (ρ' a.1 a.2.1) (own.map (·.2)) v σ H Q
def LcT (E : List PyData → Prop) (B : List PyData → Nat → Bool → Prop) (ρ' : List PyData → Nat → List SD) : TT := fun σ H Q => ∃ a : List PyData × Nat × PyData, (E a.1 ∧ a.1[a.2.1]? = some a.2.2) ∧ tT (ρ' a.1 a.2.1) (B a.1 a.2.1) σ H Q
def LcE (E : List PyData → Prop) (B : List PyData → Nat → Bool → Prop) (G : List PyData → Nat → PyData → Prop) (ρ' : List PyData → Nat → List SD) : TE := fun σ H Q => ∃ a : List PyData × Nat × PyData, (E a.1 ∧ a.1[a.2.1]? = some a.2.2 ∧ B a.1 a.2.1 true) ∧ tP (ρ' a.1 a.2.1) (G a.1 a.2.1) σ H Q
variable {E : List PyData → Prop} {B : List PyData → Nat → Bool → Prop} {G : List PyData → Nat → PyData → Prop} {ρ' : List PyData → Nat → List SD} {Pv : List PyData → Nat → List PyData → Prop}
theorem Lc.gA (L : Lc X ρ elt tg iter ifs scope own E B G ρ' Pv) : ∀ (s : Shared) (H : Hp) (C : Addr) (cl : List (Str × Addr)) (fp : List Addr), PG (X.blk s H scope (compEnvC scope cl C X.env) fp) tg (LcG ρ own E ρ') := fun s H C cl fp => pg_any fun a ha => L.hg a.1 a.2.1 a.2.2 ha.1 ha.2 s H C cl fp
theorem Lc.tA (L : Lc X ρ elt tg iter ifs scope own E B G ρ' Pv) : ∀ (s : Shared) (H : Hp) (C : Addr) (cl : List (Str × Addr)) (fp : List Addr), PTs (X.blk s H scope (compEnvC scope cl C X.env) fp) ifs (LcT E B ρ') := fun s H C cl fp => pts_any fun a ha => L.ht a.1 a.2.1 a.2.2 ha.1 ha.2 s H C cl fp
theorem Lc.eA (L : Lc X ρ elt tg iter ifs scope own E B G ρ' Pv) : ∀ (s : Shared) (H : Hp) (C : Addr) (cl : List (Str × Addr)) (fp : List Addr), PE (X.blk s H scope (compEnvC scope cl C X.env) fp) elt (LcE E B G ρ') := fun s H C cl fp => pe_any fun a ha => L.he a.1 a.2.1 a.2.2 ha.1 ha.2.1 ha.2.2 s H C cl fp
theorem Lc.rd (L : Lc X ρ elt tg iter ifs scope own E B G ρ' Pv) (σ : Sg) (H : Hp) (Q : VK) (h : tF ρ (fun es => ∃ ds, E ds ∧ Pv ds ds.length es) σ H Q) :
    tLc (tIN ρ E) (LcG ρ own E ρ') (LcT E B ρ') (LcE E B G ρ') (own.map (·.2)) σ H Q := by
  obtain ⟨F, O0, O1, s, k⟩ := h
  obtain ⟨hi, ok, hp, hg, hw, hp', ht, he, h0, h1, h2⟩ := L
  refine ⟨F, O0, O1, s, fun ds J H1 s1 e1 hE hlen wk => ?_⟩
  intro Dn hD
  have nD : Dn ∉ O1 ++ O0 := s1.al.out hD
  have mD : ∀ (H' : Hp) (o : HO), Ex (msk (O1 ++ O0) H1) (msk (O1 ++ Dn :: O0) H') → Ex (msk (O1 ++ O0) H1) (msk (O1 ++ Dn :: O0) (upd H' Dn o)) := fun H' o e a u h => by
    have h' := e a u h
    obtain ⟨q1, q2⟩ := msk_some h'
    rw [msk_out q1, upd_ne fun z => q1 (by rw [z]; exact List.mem_append_right _ List.mem_cons_self)]
    exact q2
  have inD : Dn ∈ O1 ++ Dn :: O0 := List.mem_append_right _ List.mem_cons_self
  refine ⟨fun i m H' => m = ds.length - i ∧ i ≤ ds.length ∧ ∃ acc es, H' Dn = some (.lst acc) ∧ RpA (msk (O1 ++ Dn :: O0) H') acc es ∧ es.length ≤ i ∧ Pv ds i es ∧ SA F (Dn :: O0) O1 ρ σ H' ∧ Ex (msk (O1 ++ O0) H1) (msk (O1 ++ Dn :: O0) H'), ?_, ?_⟩
  · refine ⟨ds.length, by simp, Nat.zero_le _, [], [], upd_same, .nil, Nat.le_refl _, h0 ds hE, ?_, ?_⟩
    · refine ⟨s1.fr.trans (Ex.new hD), ?_, fun a ha => ?_, fun a ha => ?_⟩
      · refine s1.sl.mono (fun a u h => ?_) fun a ha => upd_ne fun z => nD (by rw [← z]; exact List.mem_append_left _ ha)
        obtain ⟨q1, q2⟩ := msk_some h
        have na : a ≠ Dn := ne_of_none q2 hD
        rw [msk_out fun z => ?_, upd_ne na]
        · exact q2
        · rcases List.mem_append.mp z with z | z
          · exact q1 (List.mem_append_left _ z)
          · rcases List.mem_cons.mp z with z | z
            · exact na z
            · exact q1 (List.mem_append_right _ z)
      · refine ⟨(s1.new a ha).1, fun z => ?_⟩
        rcases List.mem_cons.mp z with z | z
        · exact nD (by rw [← z]; exact List.mem_append_left _ ha)
        · exact (s1.new a ha).2 z
      · rcases List.mem_cons.mp ha with z | z
        · rw [z, upd_same]; exact fun q => nomatch q
        · exact s1.al0.ex (Ex.new hD) a z
    · intro a u h
      obtain ⟨q1, q2⟩ := msk_some h
      have na : a ≠ Dn := ne_of_none q2 hD
      rw [msk_out fun z => ?_, upd_ne na]
      · exact q2
      · rcases List.mem_append.mp z with z | z
        · exact q1 (List.mem_append_left _ z)
        · rcases List.mem_cons.mp z with z | z
          · exact na z
          · exact q1 (List.mem_append_right _ z)
  · rintro i m H2 ⟨rfl, hi2, acc, es, hacc, racc, hes, pv, s2, e2⟩
    have e2u : Ex (msk (O1 ++ O0) H1) H2 := e2.trans Ex.unmsk
    obtain ⟨wgo, wstop⟩ := wk i H2 e2u
    by_cases hlt : i < ds.length
    · have hdi : ds[i]? = some ds[i] := List.getElem?_eq_getElem hlt
      obtain ⟨go, yl⟩ := wgo _ hdi
      refine .inr ⟨go, fun H' => ∃ acc es, H' Dn = some (.lst acc) ∧ RpA (msk (O1 ++ Dn :: O0) H') acc es ∧ es.length ≤ i + 1 ∧ Pv ds (i + 1) es ∧ SA F (Dn :: O0) O1 ρ σ H' ∧ Ex (msk (O1 ++ O0) H1) (msk (O1 ++ Dn :: O0) H'), fun H' hN' => ⟨ds.length - (i + 1), by omega, rfl, hlt, hN'⟩, fun x H3 y => ?_⟩
      obtain ⟨e3, rx⟩ := yl x H3 y
      have fz : ∀ a ∈ O1 ++ Dn :: O0, msk (O1 ++ O0) H1 a = none := fun a ha => by
        by_cases c : a ∈ O1 ++ O0
        · exact msk_in c
        · have z : a = Dn := by
            rcases List.mem_append.mp ha with z | z
            · exact absurd (List.mem_append_left _ z) c
            · rcases List.mem_cons.mp z with z | z
              · exact z
              · exact absurd (List.mem_append_right _ z) c
          rw [msk_out c, z]; exact hD
      have rx' := rx (O1 ++ Dn :: O0) s2.al fz
      have s3 := s2.ex e3
      have acc3 : H3 Dn = some (.lst acc) := e3 _ _ hacc
      -- the frame: the list as it stands too
      have fr : ∀ {H'} , SA F (Dn :: O0) O1 ρ σ H' → H' Dn = some (.lst acc) → SA (upd F Dn (.lst acc)) (Dn :: O0) O1 ρ σ H' := fun {H'} z q => ⟨fun a u h => by
          by_cases c : a = Dn
          · rw [c, upd_same] at h; rw [c, q]; exact h
          · rw [upd_ne c] at h; exact z.fr a u h, z.sl, fun a ha => ⟨by rw [upd_ne fun c => (z.new a ha).2 (by rw [c]; exact List.mem_cons_self)]; exact (z.new a ha).1, (z.new a ha).2⟩, z.al0⟩
      have sF := fr s3 acc3
      have sW := sF.wipe hp
      have FD : F Dn = none ∨ ∃ o, F Dn = some o := by cases F Dn with | none => exact .inl rfl | some o => exact .inr ⟨o, rfl⟩
      have unF : ∀ {O ρ σ H'}, SA (upd F Dn (.lst acc)) (Dn :: O0) O ρ σ H' → (∀ o, F Dn = some o → False) → SA F (Dn :: O0) O ρ σ H' := fun {O ρ σ H'} z q => ⟨fun a u h => by
          by_cases c : a = Dn
          · rw [c] at h; exact (q u h).elim
          · exact z.fr a u (by rw [upd_ne c]; exact h), z.sl, fun a ha => ⟨by
          have h := (z.new a ha).1
          by_cases c : a = Dn
          · rw [c]
            cases w : F Dn with
            | none => rfl
            | some o => exact (q o w).elim
          · rw [upd_ne c] at h; exact h, (z.new a ha).2⟩, z.al0⟩
      have FDn : ∀ o, F Dn = some o → False := fun o h => by have := s1.fr Dn o h; rw [hD] at this; cases this
      refine ⟨(ds, i, ds[i]), ⟨hE, hdi⟩, upd F Dn (.lst acc), Dn :: O0, O1, sW, rx', fun σ2 w2 s4 => ⟨w2.trans (by
        apply List.ext_getElem?
        intro j
        have g : ∀ (vs : List Nat) (τ : Sg), (∀ v ∈ vs, v ∈ own.map (·.2)) → L2.wipe (L2.wipe τ vs) (own.map (·.2)) = L2.wipe τ (own.map (·.2)) := by
          intro vs
          induction vs with
          | nil => intro τ _; rfl
          | cons v vs ih =>
            intro τ hv
            show L2.wipe ((L2.wipe τ vs).set v none) _ = _
            rw [wipe_set (hv v List.mem_cons_self)]
            exact ih τ fun z hz => hv z (List.mem_cons_of_mem _ hz)
        rw [g _ σ fun v hv => hv]), ?_⟩⟩
      refine ⟨(ds, i, ds[i]), ⟨hE, hdi⟩, upd F Dn (.lst acc), Dn :: O0, O1, s4, fun b H4 s5 e5 hB => ?_⟩
      -- back to the slots as they were
      have back : ∀ {H'}, SA (upd F Dn (.lst acc)) (Dn :: O0) O1 (ρ' ds i) σ2 H' → Ex (msk (O1 ++ Dn :: O0) H3) (msk (O1 ++ Dn :: O0) H') → SA F (Dn :: O0) O1 ρ σ H' := fun {H'} z q => by
        have z1 := z.wipe (hp' ds i _ hE hdi)
        rw [hw ds i _ hE hdi, w2] at z1
        have g : L2.wipe (L2.wipe σ (own.map (·.2))) (own.map (·.2)) = L2.wipe σ (own.map (·.2)) := by
          have g : ∀ (vs : List Nat) (τ : Sg), (∀ v ∈ vs, v ∈ own.map (·.2)) → L2.wipe (L2.wipe τ vs) (own.map (·.2)) = L2.wipe τ (own.map (·.2)) := by
            intro vs
            induction vs with
            | nil => intro τ _; rfl
            | cons v vs ih =>
              intro τ hv
              show L2.wipe ((L2.wipe τ vs).set v none) _ = _
              rw [wipe_set (hv v List.mem_cons_self)]
              exact ih τ fun z hz => hv z (List.mem_cons_of_mem _ hz)
          exact g _ σ fun v hv => hv
        rw [g] at z1
        exact unF (sF.unwipe hp q z1) FDn
      have e23 : Ex (msk (O1 ++ Dn :: O0) H2) (msk (O1 ++ Dn :: O0) H3) := e3.msk
      cases b with
      | false =>
        refine iteF ?_
        have hD4 : H4 Dn = some (.lst acc) := s5.fr Dn _ upd_same
        exact ⟨acc, es, hD4, (racc.mono e23).mono e5, Nat.le_succ_of_le hes, h2 ds i es hE hlt pv hB, back s5 e5, (e2.trans e23).trans e5⟩
      | true =>
        refine iteT ?_
        refine ⟨(ds, i, ds[i]), ⟨hE, hdi, hB⟩, upd F Dn (.lst acc), Dn :: O0, O1, s5, fun y d H5 s6 e6 hG ry => ?_⟩
        have hD5 : H5 Dn = some (.lst acc) := s6.fr Dn _ upd_same
        have e35 := e5.trans e6
        have sB := back s6 e35
        have eL : Ex (msk (O1 ++ Dn :: O0) H5) (msk (O1 ++ Dn :: O0) (upd H5 Dn (.lst (acc ++ [y])))) := fun a u h => by
          obtain ⟨q1, q2⟩ := msk_some h
          rw [msk_out q1, upd_ne fun z => q1 (by rw [z]; exact inD)]
          exact q2
        refine ⟨acc, hD5, ?_, acc ++ [y], es ++ [d], upd_same, ?_, ?_, h1 ds i es d hE hlt pv hB hG, ?_, ?_⟩
        · rw [racc.len]
          exact Nat.lt_of_lt_of_le (Nat.lt_of_le_of_lt hes hlt) (le_line hlen)
        · exact ((((racc.mono e23).mono e35).mono eL).append (.cons (ry.mono eL) .nil))
        · rw [List.length_append]; exact Nat.add_le_add_right hes 1
        · refine ⟨fun a u h => ?_, sB.sl.mono eL fun a ha => upd_ne fun z => (sB.new a ha).2 (by rw [z]; exact List.mem_cons_self), sB.new, fun a ha => ?_⟩
          · rw [upd_ne fun z => FDn u (by rw [← z]; exact h)]
            exact sB.fr a u h
          · by_cases c : a = Dn
            · rw [c, upd_same]; exact fun z => nomatch z
            · rw [upd_ne c]; exact sB.al0 a ha
        · exact mD H5 _ ((e2.trans e23).trans e35)
    · have ei : i = ds.length := by omega
      subst ei
      refine .inl ⟨wstop (Nat.le_refl _), ?_⟩
      exact k Dn acc es H2 s2 (by
        cases w : F Dn with
        | none => rfl
        | some o => have := s1.fr Dn o w; rw [hD] at this; cases this) nD hacc racc (Nat.le_trans hes hlen) ⟨ds, hE, pv⟩ (e1.trans e2)
theorem ef_lc (hc : X.calm = true) (hN : X.N.Nodup) (L : Lc X ρ elt tg iter ifs scope own E B G ρ' Pv) (hs : ∀ x, foldedSetIterable iter X.env x = pure x := by intro _; rfl) : EvF X ρ (.ListComp elt [⟨tg, iter, ifs, 0⟩] scope pos) (fun es => ∃ ds, E ds ∧ Pv ds ds.length es) :=
  pe_imp (pe_lc hc hN L.hi L.ok L.gA L.tA L.eA hs) L.rd
/-- over a list that is known, answers that are known -/
theorem Lc.mk1 {α : Type} {xs : List α} {enc : α → PyData} {g : α → Bool} {f : α → PyData} (own : List (Str × Nat)) (ρt : α → List SD) (hi : EvI X ρ tg iter (xs.map enc)) (ok : BlkOk X.N X.env.scope scope own) (hp : (own.map (·.2)).all (plainAt ρ) = true)
    (hg : ∀ x ∈ xs, ∀ (s : Shared) (H : Hp) (C : Addr) (cl : List (Str × Addr)) (fp : List Addr), EvG (X.blk s H scope (compEnvC scope cl C X.env) fp) tg (wipeD ρ (own.map (·.2))) (enc x) (ρt x) (own.map (·.2)))
    (hw : ∀ x ∈ xs, wipeD (ρt x) (own.map (·.2)) = wipeD ρ (own.map (·.2))) (hp' : ∀ x ∈ xs, (own.map (·.2)).all (plainAt (ρt x)) = true)
    (ht : ∀ x ∈ xs, ∀ (s : Shared) (H : Hp) (C : Addr) (cl : List (Str × Addr)) (fp : List Addr), PTs (X.blk s H scope (compEnvC scope cl C X.env) fp) ifs (tT (ρt x) (Eq (g x))))
    (he : ∀ x ∈ xs, g x = true → ∀ (s : Shared) (H : Hp) (C : Addr) (cl : List (Str × Addr)) (fp : List Addr), Ev (X.blk s H scope (compEnvC scope cl C X.env) fp) (ρt x) elt (f x)) :
    Lc X ρ elt tg iter ifs scope own (Eq (xs.map enc)) (fun _ i b => ∃ x, xs[i]? = some x ∧ g x = b) (fun _ i d => ∃ x, xs[i]? = some x ∧ f x = d) (fun _ i => match xs[i]? with | some x => ρt x | none => []) (fun _ i es => es = ((xs.take i).filter g).map f) := by
  have mem : ∀ {i : Nat} {x : α}, xs[i]? = some x → x ∈ xs := fun h => List.mem_of_getElem? h
  have here : ∀ {i : Nat} {d : PyData}, (xs.map enc)[i]? = some d → ∃ x, xs[i]? = some x ∧ enc x = d := fun {i d} h => by
    rw [List.getElem?_map] at h
    cases q : xs[i]? with
    | none => rw [q] at h; cases h
    | some x => rw [q] at h; exact ⟨x, rfl, Option.some.inj h⟩
  have tk : ∀ {i : Nat} {x : α}, xs[i]? = some x → xs.take (i + 1) = xs.take i ++ [x] := fun {i x} h => by
    rw [List.take_add_one, h]; rfl
  refine ⟨hi, ok, fun i hi => List.all_eq_true.mp hp i hi, fun ds i d hE hd => ?_, fun ds i d hE hd => ?_, fun ds i d hE hd => ?_, fun ds i d hE hd => ?_, fun ds i d hE hd hB => ?_, fun ds _ => rfl, fun ds i es z hE hl pv hB hG => ?_, fun ds i es hE hl pv hB => ?_⟩
  · subst hE; obtain ⟨x, hx, rfl⟩ := here hd; rw [hx]; exact hg x (mem hx)
  · subst hE; obtain ⟨x, hx, rfl⟩ := here hd; rw [hx]; exact hw x (mem hx)
  · subst hE; obtain ⟨x, hx, rfl⟩ := here hd; rw [hx]; exact fun j hj => List.all_eq_true.mp (hp' x (mem hx)) j hj
  · subst hE; obtain ⟨x, hx, rfl⟩ := here hd; rw [hx]
    intro s H C cl fp
    refine pts_imp (ht x (mem hx) s H C cl fp) fun σ H Q ⟨F, O0, O1, s, k⟩ => ⟨F, O0, O1, s, fun b H' s' e' hb => k b H' s' e' ⟨x, rfl, hb⟩⟩
  · subst hE; obtain ⟨x, hx, rfl⟩ := here hd; obtain ⟨x', hx', hb⟩ := hB
    rw [hx] at hx'; cases hx'
    rw [hx]
    intro s H C cl fp
    exact evn_imp (he x (mem hx) hb s H C cl fp) fun d hd => ⟨x, rfl, hd⟩
  · subst pv; obtain ⟨x, hx, hb⟩ := hB; obtain ⟨x', hx', hz⟩ := hG
    rw [hx] at hx'; cases hx'
    rw [tk hx, List.filter_append, List.filter_cons_of_pos hb, List.map_append, ← hz]; rfl
  · subst pv; obtain ⟨x, hx, hb⟩ := hB
    rw [tk hx, List.filter_append, List.filter_cons_of_neg (by rw [hb]; exact Bool.false_ne_true), List.filter_nil, List.append_nil]
theorem lc_end {α : Type} {xs : List α} {enc : α → PyData} {g : α → Bool} {f : α → PyData} : ∀ es : List PyData, (∃ ds, xs.map enc = ds ∧ es = ((xs.take ds.length).filter g).map f) → (xs.filter g).map f = es := fun es ⟨ds, e, h⟩ => by
  subst e
  rw [List.length_map, List.take_length] at h
  exact h.symm
theorem ev_lcF (hc : X.calm = true) (hN : X.N.Nodup) {α : Type} {xs : List α} {enc : α → PyData} {g : α → Bool} {f : α → PyData} {ρ' : List PyData → Nat → List SD} {B G}
    (L : Lc X ρ elt tg iter ifs scope own (Eq (xs.map enc)) B G ρ' (fun _ i es => es = ((xs.take i).filter g).map f)) (hs : ∀ x, foldedSetIterable iter X.env x = pure x := by intro _; rfl) : EvF X ρ (.ListComp elt [⟨tg, iter, ifs, 0⟩] scope pos) (Eq ((xs.filter g).map f)) :=
  pe_imp (ef_lc hc hN L hs) fun σ H Q ⟨F, O0, O1, s, k⟩ => ⟨F, O0, O1, s, fun p xs' ds H' a1 a2 a3 a4 a5 a6 a7 a8 => k p xs' ds H' a1 a2 a3 a4 a5 a6 (lc_end ds a7) a8⟩
theorem ev_lc (hc : X.calm = true) (hN : X.N.Nodup) {α : Type} {xs : List α} {enc : α → PyData} {g : α → Bool} {f : α → PyData} {ρ' : List PyData → Nat → List SD} {B G}
    (L : Lc X ρ elt tg iter ifs scope own (Eq (xs.map enc)) B G ρ' (fun _ i es => es = ((xs.take i).filter g).map f)) (hs : ∀ x, foldedSetIterable iter X.env x = pure x := by intro _; rfl) : Ev X ρ (.ListComp elt [⟨tg, iter, ifs, 0⟩] scope pos) (.list ((xs.filter g).map f)) :=
  evn_of_f (ev_lcF hc hN L hs) fun ds e => by subst e; rfl
theorem ev_lcE (hc : X.calm = true) (hN : X.N.Nodup) {α β : Type} {xs : List α} {enc : α → PyData} {g : α → Bool} {f : α → β} {enc' : β → PyData} {ρ' : List PyData → Nat → List SD} {B G}
    (L : Lc X ρ elt tg iter ifs scope own (Eq (xs.map enc)) B G ρ' (fun _ i es => es = ((xs.take i).filter g).map fun x => enc' (f x))) (hs : ∀ x, foldedSetIterable iter X.env x = pure x := by intro _; rfl) : Ev X ρ (.ListComp elt [⟨tg, iter, ifs, 0⟩] scope pos) (.list (((xs.filter g).map f).map enc')) := by
  have h := ev_lc (pos := pos) hc hN L hs
  rw [List.map_map]
  exact h
theorem ev_lcE0 (hc : X.calm = true) (hN : X.N.Nodup) {α β : Type} {xs : List α} {enc : α → PyData} {f : α → β} {enc' : β → PyData} {ρ' : List PyData → Nat → List SD} {B G}
    (L : Lc X ρ elt tg iter ifs scope own (Eq (xs.map enc)) B G ρ' (fun _ i es => es = ((xs.take i).filter fun _ => true).map fun x => enc' (f x))) (hs : ∀ x, foldedSetIterable iter X.env x = pure x := by intro _; rfl) : Ev X ρ (.ListComp elt [⟨tg, iter, ifs, 0⟩] scope pos) (.list ((xs.map f).map enc')) := by
  have h := ev_lcE (pos := pos) hc hN L hs
  rw [List.filter_eq_self.mpr (fun _ _ => rfl)] at h
  exact h
/-- what such a comprehension has made -/
theorem lc_is {α β : Type} {xs : List α} {enc : α → PyData} {g : α → Bool} {f : α → β} {enc' : β → PyData} {ds es : List PyData} (e : xs.map enc = ds) (h : es = ((xs.take ds.length).filter g).map fun x => enc' (f x)) : es = ((xs.filter g).map f).map enc' := by
  rw [List.map_map, ← lc_end es ⟨ds, e, h⟩]; rfl
theorem lc_is0 {α β : Type} {xs : List α} {enc : α → PyData} {f : α → β} {enc' : β → PyData} {ds es : List PyData} (e : xs.map enc = ds) (h : es = ((xs.take ds.length).filter fun _ => true).map fun x => enc' (f x)) : es = (xs.map f).map enc' := by
  rw [lc_is e h, List.filter_eq_self.mpr (fun _ _ => rfl)]
theorem pts_yes {X : Cx} {ρ : List SD} : PTs X [] (tT ρ (Eq true)) := pts_imp pts_nil fun σ H Q ⟨F, O0, O1, s, k⟩ => k true H s (Ex.refl _) rfl
end
end PL

namespace PL
open PySem PySem.Spec PyProof.Rows L2

/-! ## statements -/
/-- what is wanted behind a statement, by the slots -/
structure Po where
  nx : List SD → Prop
  rt : PyData → List SD → Prop
  bk : List SD → Prop := fun _ => False
  ct : List SD → Prop := fun _ => False
def tS (ρ : List SD) (P : Po) : TS := fun D σ H => ∃ F O0 O1, SA F O0 O1 ρ σ H ∧
  (∀ ρ' O1' σ' H', P.nx ρ' → SA F O0 O1' ρ' σ' H' → D.nx σ' H') ∧
  (∀ v d ρ' O1' σ' H', P.rt d ρ' → SA F O0 O1' ρ' σ' H' → Rp (msk (O1' ++ O0) H') v d → D.rt v H') ∧
  (∀ ρ' O1' σ' H', P.bk ρ' → SA F O0 O1' ρ' σ' H' → D.bk σ' H') ∧
  (∀ ρ' O1' σ' H', P.ct ρ' → SA F O0 O1' ρ' σ' H' → D.ct σ' H')
abbrev HS (X : Cx) (st : Stmt) (ρ : List SD) (P : Po) : Prop := PS X st (tS ρ P)
abbrev HSs (X : Cx) (sts : List Stmt) (ρ : List SD) (P : Po) : Prop := PSs X sts (tS ρ P)
abbrev Po.to (P : Po) (M : List SD → Prop) : Po := { P with nx := M }
section
variable {X : Cx} {ρ ρ1 : List SD} {P P' : Po} {st : Stmt} {rest A B : List Stmt} {e c : Expr} {d : PyData} {D : PyData → Prop} {pos pos' : Pos} {x : Str} {i : Nat} {M : List SD → Prop}
theorem hs_post (h : HSs X rest ρ P) (h1 : ∀ r, P.nx r → P'.nx r) (h2 : ∀ d r, P.rt d r → P'.rt d r) (h3 : ∀ r, P.bk r → P'.bk r) (h4 : ∀ r, P.ct r → P'.ct r) : HSs X rest ρ P' :=
  pss_imp h fun D σ H ⟨F, O0, O1, s, a, b, k, t⟩ => ⟨F, O0, O1, s, fun r O σ' H' q => a r O σ' H' (h1 r q), fun v d r O σ' H' q => b v d r O σ' H' (h2 d r q), fun r O σ' H' q => k r O σ' H' (h3 r q), fun r O σ' H' q => t r O σ' H' (h4 r q)⟩
theorem hs_nil (h : P.nx ρ) : HSs X [] ρ P := pss_imp pss_nil fun D σ H ⟨F, O0, O1, s, a, b, k, t⟩ => a ρ O1 σ H h s
theorem hs_cons (h : HS X st ρ (P.to M)) (k : ∀ r, M r → HSs X rest r P) : HSs X (st :: rest) ρ P :=
  pss_imp (pss_cons h (pss_any k)) fun D σ H ⟨F, O0, O1, s, a, b, k, t⟩ => ⟨F, O0, O1, s, fun r O σ' H' q s' => ⟨r, q, F, O0, O, s', a, b, k, t⟩, b, k, t⟩
theorem hs_one (h : HS X st ρ P) : HSs X [st] ρ P := pss_one h
/-- slots forgotten -/
theorem hs_wipe (js : List Nat) (h : HSs X rest (wipeD ρ js) P) (hp : js.all (plainAt ρ) = true := by rfl) : HSs X rest ρ P :=
  ⟨fun pins s σ H D I ⟨F, O0, O1, st, q⟩ => by
    have st' := st.wipe fun i hi => List.all_eq_true.mp hp i hi
    have hl : (L2.wipe σ js).length = σ.length := wipe_length σ js
    exact h.run pins s (L2.wipe σ js) H D (I.weak hl fun j v e => (wipe_some e).1) ⟨F, O0, O1, st', q⟩⟩
theorem hs_nilW (js : List Nat) (h : P.nx (wipeD ρ js)) (hp : js.all (plainAt ρ) = true := by rfl) : HSs X [] ρ P := hs_wipe js (hs_nil h) hp
theorem hs_retN (he : EvN X ρ e D) (h : ∀ d, D d → P.rt d ρ) : HSs X (.Return (some e) pos :: rest) ρ P :=
  hs_cons (M := fun _ => False) (ps_imp (ps_ret he) fun Dn σ H ⟨F, O0, O1, s, a, b, k, t⟩ => ⟨F, O0, O1, s, fun v d H' s' e' hd r => b v d ρ O1 σ H' (h d hd) s' r⟩) fun _ z => z.elim
theorem hs_ret (he : Ev X ρ e d) (h : P.rt d ρ) : HSs X (.Return (some e) pos :: rest) ρ P := hs_retN he fun d' e' => by subst e'; exact h
theorem hs_setN (hN : X.N.Nodup) (hi : X.N[i]? = some x) (hx : Loc X.env.scope x) (hp : plainAt ρ i = true) (he : EvN X ρ e D) (k : ∀ d, D d → HSs X rest (ρ.set i (.dat d)) P) (hs : swapsWith e (some (.Name x pos')) pos.line X.env = pure false := by rfl)
    (hf : X.fn x = true ∨ X.env.scope.names.lookup x = some .local := by first | exact .inl rfl | exact .inr rfl | assumption) : HSs X (.Assign [.Name x pos'] e pos :: rest) ρ P :=
  hs_cons (M := fun r => ∃ d, D d ∧ r = ρ.set i (.dat d)) (ps_imp (ps_set hN hi hx he hs hf) fun Dn σ H ⟨F, O0, O1, s, a, b, k, t⟩ => ⟨F, O0, O1, s, fun v d H' s' e' hd r => a _ O1 _ H' ⟨d, hd, rfl⟩ (s'.set hp r)⟩) fun r ⟨d, hd, z⟩ => by subst z; exact k d hd
theorem hs_set (hN : X.N.Nodup) (hi : X.N[i]? = some x) (hx : Loc X.env.scope x) (hp : plainAt ρ i = true) (he : Ev X ρ e d) (k : HSs X rest (ρ.set i (.dat d)) P) (hs : swapsWith e (some (.Name x pos')) pos.line X.env = pure false := by rfl)
    (hf : X.fn x = true ∨ X.env.scope.names.lookup x = some .local := by first | exact .inl rfl | exact .inr rfl | assumption) : HSs X (.Assign [.Name x pos'] e pos :: rest) ρ P :=
  hs_setN hN hi hx hp he (fun d' e' => by subst e'; exact k) hs hf
theorem hs_dropN (he : EvN X ρ e D) (k : HSs X rest ρ P) (hs : swapsWith e none pos.line X.env = pure false := by rfl) : HSs X (.Expr e pos :: rest) ρ P :=
  hs_cons (M := fun r => r = ρ) (ps_imp (ps_expr he hs) fun Dn σ H ⟨F, O0, O1, s, a, b, k, t⟩ => ⟨F, O0, O1, s, fun v d H' s' e' hd r => a _ O1 _ H' rfl s'⟩) fun r z => by subst z; exact k
theorem hs_if {b : Bool} (M : List SD → Prop) (hc : EvT X ρ c b) (h1 : b = true → HSs X A ρ (P.to M)) (h2 : b = false → HSs X B ρ (P.to M)) (k : ∀ r, M r → HSs X rest r P) : HSs X (.If c A B pos :: rest) ρ P := by
  refine hs_cons (M := M) ?_ k
  cases b with
  | true =>
    refine ⟨fun pins s σ H D I ⟨F, O0, O1, st, q⟩ => ?_⟩
    refine wpAny_If (thn (hc.run pins s σ H (fun b H' => b = true ∧ tS ρ (P.to M) D σ H') I ⟨F, O0, O1, st, fun b H' s' e' hd => ⟨hd.symm, F, O0, O1, s', q⟩⟩) fun z s1 ⟨H1, I1, q1⟩ => ?_)
    obtain ⟨rfl, q1⟩ := q1
    exact (h1 rfl).run pins s1 σ H1 D I1 q1
  | false =>
    refine ⟨fun pins s σ H D I ⟨F, O0, O1, st, q⟩ => ?_⟩
    refine wpAny_If (thn (hc.run pins s σ H (fun b H' => b = false ∧ tS ρ (P.to M) D σ H') I ⟨F, O0, O1, st, fun b H' s' e' hd => ⟨hd.symm, F, O0, O1, s', q⟩⟩) fun z s1 ⟨H1, I1, q1⟩ => ?_)
    obtain ⟨rfl, q1⟩ := q1
    exact (h2 rfl).run pins s1 σ H1 D I1 q1
/-- an if whose answer is open -/
theorem hs_ifN {Bp : Bool → Prop} (M : List SD → Prop) (hc : PT X c (tT ρ Bp)) (h1 : Bp true → HSs X A ρ (P.to M)) (h2 : Bp false → HSs X B ρ (P.to M)) (k : ∀ r, M r → HSs X rest r P) : HSs X (.If c A B pos :: rest) ρ P := by
  refine hs_cons (M := M) ?_ k
  refine ⟨fun pins s σ H D I ⟨F, O0, O1, st, q⟩ => ?_⟩
  refine wpAny_If (thn (hc.run pins s σ H (fun b H' => Bp b ∧ tS ρ (P.to M) D σ H') I ⟨F, O0, O1, st, fun b H' s' e' hd => ⟨hd, F, O0, O1, s', q⟩⟩) fun z s1 ⟨H1, I1, q1⟩ => ?_)
  obtain ⟨hz, q1⟩ := q1
  cases z with
  | true => exact (h1 hz).run pins s1 σ H1 D I1 q1
  | false => exact (h2 hz).run pins s1 σ H1 D I1 q1
/-- an if that leaves -/
theorem hs_if0 {b : Bool} (hc : EvT X ρ c b) (h1 : b = true → HSs X A ρ (P.to fun _ => False)) (k : b = false → HSs X rest ρ P) : HSs X (.If c A [] pos :: rest) ρ P := by
  cases b with
  | true => exact hs_if (b := true) (fun r => False) hc h1 (fun z => nomatch z) fun r z => z.elim
  | false => exact hs_if (b := false) (fun r => r = ρ) hc (fun z => nomatch z) (fun _ => hs_nil rfl) fun r z => by subst z; exact k rfl
theorem hs_pass (k : HSs X rest ρ P) : HSs X (.Pass pos :: rest) ρ P := hs_cons (M := (· = ρ)) (ps_imp ps_pass fun D σ H ⟨F, O0, O1, s, a, b, k, t⟩ => a ρ O1 σ H rfl s) fun r z => by subst z; exact k
theorem hs_break (h : P.bk ρ) : HSs X (.Break pos :: rest) ρ P := hs_cons (M := fun _ => False) (ps_imp ps_break fun D σ H ⟨F, O0, O1, s, a, b, k, t⟩ => k ρ O1 σ H h s) fun r z => z.elim
theorem hs_continue (h : P.ct ρ) : HSs X (.Continue pos :: rest) ρ P := hs_cons (M := fun _ => False) (ps_imp ps_continue fun D σ H ⟨F, O0, O1, s, a, b, k, t⟩ => t ρ O1 σ H h s) fun r z => z.elim
end

/-! ## for -/
theorem SA.frame {F F' H : Hp} {O0 O1 : List Addr} {ρ : List SD} {σ : Sg} (s : SA F' O0 O1 ρ σ H) (e : Ex F F') : SA F O0 O1 ρ σ H :=
  ⟨e.trans s.fr, s.sl, fun a ha => ⟨(by
    cases w : F a with
    | none => rfl
    | some o =>
      have h := (s.new a ha).1
      rw [e a o w] at h
      cases h), (s.new a ha).2⟩, s.al0⟩
section
variable {X : Cx} {ρ : List SD} {P : Po} {rest body : List Stmt} {tg iter : Expr} {pos : Pos}
theorem hs_for {E : List PyData → Prop} (Iv : List PyData → Nat → List SD → Prop) (Bk : List SD → Prop) (hp : PassesOwn (model X.prog X.w) X.A X.env X.xe) (hc : X.calm = true) (hi : EvIN X ρ tg iter E) (h0 : ∀ ds, E ds → Iv ds 0 ρ)
    (hb : ∀ ds (i : Nat) d ρ1, E ds → ds[i]? = some d → Iv ds i ρ1 → ∃ ρ2 js, EvG X tg ρ1 d ρ2 js ∧ HSs X body ρ2 { nx := Iv ds (i + 1), rt := P.rt, bk := Bk, ct := Iv ds (i + 1) })
    (hd : ∀ ds ρ1, E ds → Iv ds ds.length ρ1 → HSs X rest ρ1 P) (hk : ∀ ρ1, Bk ρ1 → HSs X rest ρ1 P) (hs : ∀ x, foldedSetIterable iter X.env x = pure x := by intro _; rfl) :
    HSs X (.For tg iter body [] pos :: rest) ρ P := by
  refine hs_cons (M := fun r => (∃ ds, E ds ∧ Iv ds ds.length r) ∨ Bk r) ?_ fun r z => z.elim (fun ⟨ds, h1, h2⟩ => hd ds r h1 h2) (hk r)
  have gA : PG X tg (fun v σ H Q => ∃ a : List SD × PyData × List SD × List Nat, EvG X tg a.1 a.2.1 a.2.2.1 a.2.2.2 ∧ tG a.1 a.2.1 a.2.2.1 a.2.2.2 v σ H Q) := pg_any fun a ha => ha
  have bA : PSs X body (fun D σ H => ∃ a : List SD × Po, HSs X body a.1 a.2 ∧ tS a.1 a.2 D σ H) := pss_any fun a ha => ha
  refine ps_imp (ps_for hp hc hi gA bA hs) fun D σ H ⟨F, O0, O1, s, nx, rt, bk, ct⟩ => ⟨F, O0, O1, s, fun ds J H1 s1 e1 hE hl wk => ?_⟩
  have eF : Ex F (msk O1 H1) := fun a o h => by
    rw [msk_out fun z => by rw [(s1.new a z).1] at h; cases h]
    exact s1.fr a o h
  have eZ : Ex (msk (O1 ++ O0) H1) (msk O1 H1) := Ex.mskSub fun a ha => List.mem_append_left _ ha
  refine ⟨fun i m σ H => m = ds.length - i ∧ i ≤ ds.length ∧ ∃ ρ1 O, Iv ds i ρ1 ∧ SA (msk O1 H1) O0 O ρ1 σ H, ⟨ds.length, by simp, Nat.zero_le _, ρ, O1, h0 ds hE, ⟨Ex.unmsk, s1.sl, fun a ha => ⟨msk_in ha, (s1.new a ha).2⟩, s1.al0⟩⟩, ?_⟩
  rintro i m σ2 H2 ⟨rfl, hi2, ρ1, O, iv, s2⟩
  obtain ⟨wgo, wstop⟩ := wk i H2 (eZ.trans s2.fr)
  by_cases hlt : i < ds.length
  · have hdi : ds[i]? = some ds[i] := List.getElem?_eq_getElem hlt
    obtain ⟨go, yl⟩ := wgo _ hdi
    obtain ⟨ρ2, js, hg, hB⟩ := hb ds i _ ρ1 hE hdi iv
    refine .inr ⟨go, fun σ' H' => ∃ ρ1 O, Iv ds (i + 1) ρ1 ∧ SA (msk O1 H1) O0 O ρ1 σ' H', fun σ' H' hN' => ⟨ds.length - (i + 1), by omega, rfl, hlt, hN'⟩, fun x H3 y => ?_⟩
    obtain ⟨e3, rx⟩ := yl x H3 y
    have s3 := s2.ex e3
    have rx' := rx (O ++ O0) s2.al fun a ha => by
      rcases List.mem_append.mp ha with z | z
      · have h := (s2.new a z).1
        by_cases c : a ∈ O1 ++ O0
        · exact msk_in c
        · rw [msk_out fun w => c (List.mem_append_left _ w)] at h
          rw [msk_out c]; exact h
      · exact msk_in (List.mem_append_right _ z)
    refine ⟨(ρ1, ds[i], ρ2, js), hg, msk O1 H1, O0, O, s3, rx', fun σ4 w4 s4 => ?_⟩
    refine ⟨(ρ2, _), hB, msk O1 H1, O0, O, s4, fun ρ' O' σ' H' q s' => ⟨ρ', O', q, s'⟩, fun v d ρ' O' σ' H' q s' r => rt v d ρ' O' σ' H' q (s'.frame eF) r, fun ρ' O' σ' H' q s' => nx ρ' O' σ' H' (.inr q) (s'.frame eF), fun ρ' O' σ' H' q s' => ⟨ρ', O', q, s'⟩⟩
  · have ei : i = ds.length := by omega
    subst ei
    exact .inl ⟨wstop (Nat.le_refl _), nx ρ1 O σ2 H2 (.inl ⟨ds, hE, iv⟩) (s2.frame eF)⟩
end

/-! ## a def's own lists -/
theorem msk_congr {O O' : List Addr} (h : ∀ a, a ∈ O ↔ a ∈ O') (H : Hp) : msk O H = msk O' H := by
  funext a
  by_cases c : a ∈ O
  · rw [msk_in c, msk_in ((h a).mp c)]
  · rw [msk_out c, msk_out fun z => c ((h a).mpr z)]
section
variable {Hm H : Hp}
theorem Sl.setOwn {p : Addr} {xs : List V} {ds : List PyData} (hp : H p = some (.lst xs)) (hl : ds.length ≤ big) (hr : RpA Hm xs ds) : ∀ {ρ : List SD} {σ : Sg} {as : List Addr} {i : Nat}, Sl Hm H ρ σ as → plainAt ρ i = true → p ∉ as →
    ∃ as', Sl Hm H (ρ.set i (.own ds)) (σ.set i (some (.ref p))) as' ∧ ∀ a, a ∈ as' ↔ a = p ∨ a ∈ as
  | [], _, _, i, _, h, _ => by simp [plainAt] at h
  | s :: ρ, σ, as, 0, h, pl, hn => by
    obtain ⟨x, r, rfl, h1, _⟩ := h.split pl
    exact ⟨p :: as, .own hp hl hr hn h1, fun a => List.mem_cons⟩
  | s :: ρ, σ, as, i + 1, h, pl, hn => by
    have pl' : plainAt ρ i = true := by simpa [plainAt] using pl
    cases h with
    | un h1 =>
      obtain ⟨as', h2, m⟩ := Sl.setOwn hp hl hr h1 pl' hn
      exact ⟨as', .un h2, m⟩
    | dat r h1 =>
      obtain ⟨as', h2, m⟩ := Sl.setOwn hp hl hr h1 pl' hn
      exact ⟨as', .dat r h2, m⟩
    | own a1 a2 a3 a4 h1 =>
      obtain ⟨as', h2, m⟩ := Sl.setOwn hp hl hr h1 pl' fun z => hn (List.mem_cons_of_mem _ z)
      refine ⟨_ :: as', .own a1 a2 a3 (fun z => ?_) h2, fun b => ?_⟩
      · rcases (m _).mp z with e | e
        · exact hn (by rw [← e]; exact List.mem_cons_self)
        · exact a4 e
      · rw [List.mem_cons, List.mem_cons, m b]
        exact ⟨fun z => z.elim (fun e => .inr (.inl e)) fun z => z.elim .inl fun z => .inr (.inr z), fun z => z.elim (fun e => .inr (.inl e)) fun z => z.elim .inl fun z => .inr (.inr z)⟩
    | mt a1 a2 h1 =>
      rename_i bs v m'
      obtain ⟨as', h2, m⟩ := Sl.setOwn hp hl hr h1 pl' fun z => hn (List.mem_append_right _ z)
      refine ⟨_ ++ as', .mt a1 (fun a ha z => ?_) h2, fun b => ?_⟩
      · rcases (m _).mp z with e | e
        · exact hn (by rw [← e]; exact List.mem_append_left _ ha)
        · exact a2 a ha e
      · rw [List.mem_append, List.mem_append, m b]
        exact ⟨fun z => z.elim (fun e => .inr (.inl e)) fun z => z.elim .inl fun z => .inr (.inr z), fun z => z.elim (fun e => .inr (.inl e)) fun z => z.elim .inl fun z => .inr (.inr z)⟩
/-- what is known of an own list; its change -/
theorem Sl.getOwn : ∀ {ρ : List SD} {σ : Sg} {as : List Addr} {i : Nat} {ds : List PyData}, Sl Hm H ρ σ as → ρ[i]? = some (.own ds) →
    ∃ a xs, σ[i]? = some (some (.ref a)) ∧ a ∈ as ∧ H a = some (.lst xs) ∧ ds.length ≤ big ∧ RpA Hm xs ds ∧
      (∀ (H' : Hp) xs' ds', H' a = some (.lst xs') → ds'.length ≤ big → RpA Hm xs' ds' → (∀ b, b ≠ a → H' b = H b) → Sl Hm H' (ρ.set i (.own ds')) σ as) ∧
      ∀ Hm', Ex Hm Hm' → Hm' a = some (.lst xs) → ∃ as', Sl Hm' H (ρ.set i (.dat (.list ds))) σ as' ∧ a ∉ as' ∧ ∀ b, b ∈ as ↔ b = a ∨ b ∈ as'
  | [], _, _, i, _, _, h => by simp at h
  | s :: ρ, σ, as, 0, ds, h, e => by
    have e' : s = .own ds := Option.some.inj e
    subst e'
    cases h with
    | own a1 a2 a3 a4 h1 =>
      refine ⟨_, _, rfl, List.mem_cons_self, a1, a2, a3, fun H' xs' ds' q1 q2 q3 q4 => ?_, fun Hm' em q => ?_⟩
      · exact .own q1 q2 q3 a4 (h1.mono (Ex.refl _) fun b hb => q4 b fun z => a4 (by rw [← z]; exact hb))
      · exact ⟨_, .dat (.lst q a2 (a3.mono em)) (h1.mono em fun _ _ => rfl), a4, fun b => List.mem_cons⟩
  | s :: ρ, σ, as, i + 1, ds, h, e => by
    have e' : ρ[i]? = some (.own ds) := by simpa using e
    cases h with
    | un h1 =>
      obtain ⟨a, xs, q1, q2, q3, q4, q5, q6, q7⟩ := Sl.getOwn h1 e'
      refine ⟨a, xs, by simpa using q1, q2, q3, q4, q5, fun H' xs' ds' z1 z2 z3 z4 => .un (q6 H' xs' ds' z1 z2 z3 z4), fun Hm' em q => ?_⟩
      obtain ⟨as', w1, w2, w3⟩ := q7 Hm' em q
      exact ⟨as', .un w1, w2, w3⟩
    | dat r h1 =>
      obtain ⟨a, xs, q1, q2, q3, q4, q5, q6, q7⟩ := Sl.getOwn h1 e'
      refine ⟨a, xs, by simpa using q1, q2, q3, q4, q5, fun H' xs' ds' z1 z2 z3 z4 => .dat r (q6 H' xs' ds' z1 z2 z3 z4), fun Hm' em q => ?_⟩
      obtain ⟨as', w1, w2, w3⟩ := q7 Hm' em q
      exact ⟨as', .dat (r.mono em) w1, w2, w3⟩
    | own a1 a2 a3 a4 h1 =>
      rename_i a0 xs0 ds0
      obtain ⟨a, xs, q1, q2, q3, q4, q5, q6, q7⟩ := Sl.getOwn h1 e'
      have ne : a0 ≠ a := fun z => a4 (by rw [z]; exact q2)
      refine ⟨a, xs, by simpa using q1, List.mem_cons_of_mem _ q2, q3, q4, q5, fun H' xs' ds' z1 z2 z3 z4 => .own (by rw [z4 _ ne]; exact a1) a2 a3 a4 (q6 H' xs' ds' z1 z2 z3 z4), fun Hm' em q => ?_⟩
      obtain ⟨as', w1, w2, w3⟩ := q7 Hm' em q
      refine ⟨a0 :: as', .own a1 a2 (a3.mono em) (fun z => a4 ((w3 _).mpr (.inr z))) w1, fun z => ?_, fun b => ?_⟩
      · rcases List.mem_cons.mp z with z | z
        · exact ne z.symm
        · exact w2 z
      · rw [List.mem_cons, List.mem_cons, w3 b]
        exact ⟨fun z => z.elim (fun e => .inr (.inl e)) fun z => z.elim .inl fun z => .inr (.inr z), fun z => z.elim (fun e => .inr (.inl e)) fun z => z.elim .inl fun z => .inr (.inr z)⟩
    | mt a1 a2 h1 =>
      rename_i bs v m
      obtain ⟨a, xs, q1, q2, q3, q4, q5, q6, q7⟩ := Sl.getOwn h1 e'
      have ne : ∀ b ∈ m.fp, b ≠ a := fun b hb z => a2 b hb (by rw [z]; exact q2)
      refine ⟨a, xs, by simpa using q1, List.mem_append_right _ q2, q3, q4, q5, fun H' xs' ds' z1 z2 z3 z4 => .mt (m.mono a1 (Ex.refl _) fun b hb => z4 b (ne b hb)) a2 (q6 H' xs' ds' z1 z2 z3 z4), fun Hm' em q => ?_⟩
      obtain ⟨as', w1, w2, w3⟩ := q7 Hm' em q
      refine ⟨m.fp ++ as', .mt (m.mono a1 em fun _ _ => rfl) (fun b hb z => a2 b hb ((w3 b).mpr (.inr z))) w1, fun z => ?_, fun b => ?_⟩
      · rcases List.mem_append.mp z with z | z
        · exact ne a z rfl
        · exact w2 z
      · rw [List.mem_append, List.mem_append, w3 b]
        exact ⟨fun z => z.elim (fun e => .inr (.inl e)) fun z => z.elim .inl fun z => .inr (.inr z), fun z => z.elim (fun e => .inr (.inl e)) fun z => z.elim .inl fun z => .inr (.inr z)⟩
end
section
variable {F H : Hp} {O0 O1 : List Addr} {ρ : List SD} {σ : Sg} {i : Nat} {ds : List PyData}
theorem SA.setOwn {p : Addr} {xs : List V} (s : SA F (p :: O0) O1 ρ σ H) (hF : F p = none) (hp : p ∉ O1 ++ O0) (hx : H p = some (.lst xs)) (hr : RpA (msk (O1 ++ p :: O0) H) xs ds) (hl : ds.length ≤ big) (pl : plainAt ρ i = true) :
    ∃ O, SA F O0 O (ρ.set i (.own ds)) (σ.set i (some (.ref p))) H := by
  obtain ⟨as', h1, m⟩ := s.sl.setOwn hx hl hr pl fun z => hp (List.mem_append_left _ z)
  have em : msk (O1 ++ p :: O0) H = msk (as' ++ O0) H := msk_congr (fun a => by
    rw [List.mem_append, List.mem_append, m a, List.mem_cons]
    exact ⟨fun z => z.elim (fun z => .inl (.inr z)) fun z => z.elim (fun z => .inl (.inl z)) .inr, fun z => z.elim (fun z => z.elim (fun z => .inr (.inl z)) .inl) fun z => .inr (.inr z)⟩) H
  rw [em] at h1
  refine ⟨as', s.fr, h1, fun a ha => ?_, fun a ha => s.al0 a (List.mem_cons_of_mem _ ha)⟩
  rcases (m a).mp ha with e | e
  · subst e; exact ⟨hF, fun z => hp (List.mem_append_right _ z)⟩
  · exact ⟨(s.new a e).1, fun z => (s.new a e).2 (List.mem_cons_of_mem _ z)⟩
theorem SA.freeze (s : SA F O0 O1 ρ σ H) (e : ρ[i]? = some (.own ds)) : ∃ O, SA F O0 O (ρ.set i (.dat (.list ds))) σ H ∧ ∀ b ∈ O, b ∈ O1 := by
  obtain ⟨a, xs, q1, q2, q3, q4, q5, q6, q7⟩ := s.sl.getOwn e
  have hO : ∀ as', (∀ b, b ∈ O1 ↔ b = a ∨ b ∈ as') → ∀ b ∈ as' ++ O0, b ∈ O1 ++ O0 := fun as' m b hb => by
    rcases List.mem_append.mp hb with z | z
    · exact List.mem_append_left _ ((m b).mpr (.inr z))
    · exact List.mem_append_right _ z
  -- the places without a
  obtain ⟨as', w1, w2, w3⟩ := q7 (msk ((O1.filter (fun b => decide (b ≠ a))) ++ O0) H) (Ex.mskSub fun b hb => by
    rcases List.mem_append.mp hb with z | z
    · exact List.mem_append_left _ (List.mem_filter.mp z).1
    · exact List.mem_append_right _ z) (by
    rw [msk_out fun z => ?_]
    · exact q3
    · rcases List.mem_append.mp z with z | z
      · exact (of_decide_eq_true (List.mem_filter.mp z).2) rfl
      · exact (s.new a q2).2 z)
  have em : msk ((O1.filter (fun b => decide (b ≠ a))) ++ O0) H = msk (as' ++ O0) H := msk_congr (fun b => by
    rw [List.mem_append, List.mem_append, List.mem_filter, w3 b, decide_eq_true_iff]
    refine ⟨fun z => z.elim (fun z => .inl (z.1.resolve_left z.2)) .inr, fun z => z.elim (fun z => .inl ⟨.inr z, fun q => w2 (by rw [← q]; exact z)⟩) .inr⟩) H
  rw [em] at w1
  exact ⟨as', ⟨s.fr, w1, fun b hb => s.new b ((w3 b).mpr (.inr hb)), s.al0⟩, fun b hb => (w3 b).mpr (.inr hb)⟩
theorem SA.updOwn (s : SA F O0 O1 ρ σ H) (e : ρ[i]? = some (.own ds)) : ∃ a xs, σ[i]? = some (some (.ref a)) ∧ H a = some (.lst xs) ∧ ds.length ≤ big ∧ RpA (msk (O1 ++ O0) H) xs ds ∧
    ∀ xs' ds', ds'.length ≤ big → RpA (msk (O1 ++ O0) H) xs' ds' → SA F O0 O1 (ρ.set i (.own ds')) σ (upd H a (.lst xs')) := by
  obtain ⟨a, xs, q1, q2, q3, q4, q5, q6, q7⟩ := s.sl.getOwn e
  refine ⟨a, xs, q1, q3, q4, q5, fun xs' ds' z1 z2 => ?_⟩
  have em : msk (O1 ++ O0) (upd H a (.lst xs')) = msk (O1 ++ O0) H := by
    funext b
    by_cases c : b ∈ O1 ++ O0
    · rw [msk_in c, msk_in c]
    · rw [msk_out c, msk_out c, upd_ne fun z => c (by rw [z]; exact List.mem_append_left _ q2)]
  refine ⟨fun b o h => ?_, by rw [em]; exact q6 _ xs' ds' upd_same z1 z2 fun b hb => upd_ne hb, s.new, fun b hb => ?_⟩
  · rw [upd_ne fun z => by rw [z, (s.new a q2).1] at h; cases h]
    exact s.fr b o h
  · rw [upd_ne fun z => (s.new a q2).2 (by rw [← z]; exact hb)]
    exact s.al0 b hb
end
/-- data without objects -/
def flatD : PyData → Bool
  | .none => true
  | .bool _ => true
  | .int _ => true
  | .str _ => true
  | _ => false
theorem Rp.flat {H H' : Hp} {v : V} {d : PyData} (r : Rp H v d) (h : flatD d = true) : Rp H' v d := by
  cases r with
  | non => exact .non
  | bl b => exact .bl b
  | int i => exact .int i
  | str x l => exact .str x l
  | lst _ _ _ => cases h
  | tup _ _ _ => cases h
/-- every own list only read -/
def frz : List SD → List SD
  | [] => []
  | .own ds :: ρ => .dat (.list ds) :: frz ρ
  | s :: ρ => s :: frz ρ
def mtsF : List SD → List Addr
  | [] => []
  | .mt m :: ρ => m.fp ++ mtsF ρ
  | _ :: ρ => mtsF ρ
/-- the things that may change do not lean on the data around them -/
def MtOk : List SD → Prop
  | [] => True
  | .mt m :: ρ => (m.fp = [] ∨ ∀ Hm Hm' H v, m.P Hm H v → m.P Hm' H v) ∧ MtOk ρ
  | _ :: ρ => MtOk ρ
theorem Sl.mtsF {Hm H : Hp} {ρ : List SD} {σ : Sg} {as : List Addr} (h : Sl Hm H ρ σ as) : ∀ a ∈ PL.mtsF ρ, a ∈ as := by
  induction h with
  | nil => intro a ha; cases ha
  | un _ ih => exact ih
  | dat _ _ ih => exact ih
  | own _ _ _ _ _ ih => exact fun a ha => List.mem_cons_of_mem _ (ih a ha)
  | mt _ _ _ ih =>
    intro a ha
    rcases List.mem_append.mp ha with z | z
    · exact List.mem_append_left _ z
    · exact List.mem_append_right _ (ih a z)
theorem Sl.frz {Hm Hm' H : Hp} {ρ : List SD} {σ : Sg} {as : List Addr} (h : Sl Hm H ρ σ as) (e : Ex Hm Hm') (k : ∀ a ∈ as, a ∉ PL.mtsF ρ → Hm' a = H a) : Sl Hm' H (PL.frz ρ) σ (PL.mtsF ρ) := by
  induction h with
  | nil => exact .nil
  | un _ ih => exact .un (ih k)
  | dat r _ ih => exact .dat (r.mono e) (ih k)
  | own h1 h2 h3 h4 h ih =>
    refine .dat (.lst ?_ h2 (h3.mono e)) (ih fun a ha hn => k a (List.mem_cons_of_mem _ ha) hn)
    rw [k _ List.mem_cons_self fun z => h4 (h.mtsF _ z)]
    exact h1
  | mt h1 h2 h ih =>
    rename_i m
    refine .mt (m.mono h1 e fun _ _ => rfl) (fun a ha z => h2 a ha (h.mtsF a z)) (ih fun a ha hn => k a (List.mem_append_right _ ha) fun z => ?_)
    rcases List.mem_append.mp z with z | z
    · exact h2 a z ha
    · exact hn z
theorem Sl.unfrz {Hm Hm' Hm2 H H' : Hp} {ρ : List SD} {σ : Sg} {as : List Addr} (h : Sl Hm H ρ σ as) (e : Ex Hm Hm') (k : ∀ a ∈ as, a ∉ PL.mtsF ρ → H' a = H a) : ∀ {as2 : List Addr}, MtOk ρ → Sl Hm2 H' (PL.frz ρ) σ as2 → Sl Hm' H' ρ σ as := by
  induction h with
  | nil => exact fun _ _ => .nil
  | un _ ih =>
    intro as2 mo h2
    cases h2 with
    | un h2 => exact .un (ih k mo h2)
  | dat r _ ih =>
    intro as2 mo h2
    cases h2 with
    | dat r2 h2 => exact .dat (r.mono e) (ih k mo h2)
  | own h1 h2 h3 h4 h ih =>
    intro as2 mo g
    cases g with
    | dat r2 g2 =>
      refine .own ?_ h2 (h3.mono e) h4 (ih (fun a ha hn => k a (List.mem_cons_of_mem _ ha) hn) mo g2)
      rw [k _ List.mem_cons_self fun z => h4 (h.mtsF _ z)]
      exact h1
  | mt h1 h2 h ih =>
    intro as2 mo g
    rename_i m
    cases g with
    | mt g1 g2 g3 =>
      refine .mt ?_ h2 (ih (fun a ha hn => k a (List.mem_append_right _ ha) fun z => ?_) mo.2 g3)
      · rcases mo.1 with q | q
        · exact m.mono h1 e fun a ha => by rw [q] at ha; cases ha
        · exact q _ _ _ _ g1
      · rcases List.mem_append.mp z with z | z
        · exact h2 a z ha
        · exact hn z
section
variable {F H H' : Hp} {O0 O1 : List Addr} {ρ : List SD} {σ : Sg}
theorem SA.frz (s : SA F O0 O1 ρ σ H) : SA F O0 (mtsF ρ) (PL.frz ρ) σ H := by
  have sub : ∀ a ∈ mtsF ρ ++ O0, a ∈ O1 ++ O0 := fun a ha => by
    rcases List.mem_append.mp ha with z | z
    · exact List.mem_append_left _ (s.sl.mtsF a z)
    · exact List.mem_append_right _ z
  refine ⟨s.fr, s.sl.frz (Ex.mskSub sub) fun a ha hn => msk_out fun z => ?_, fun a ha => s.new a (s.sl.mtsF a ha), s.al0⟩
  rcases List.mem_append.mp z with z | z
  · exact hn z
  · exact (s.new a ha).2 z
theorem SA.unfrz (s : SA F O0 O1 ρ σ H) (mo : MtOk ρ) (s' : SA F O0 (mtsF ρ) (PL.frz ρ) σ H') (e : Ex (msk (mtsF ρ ++ O0) H) (msk (mtsF ρ ++ O0) H')) : SA F O0 O1 ρ σ H' ∧ Ex (msk (O1 ++ O0) H) (msk (O1 ++ O0) H') := by
  have sub : ∀ a ∈ mtsF ρ ++ O0, a ∈ O1 ++ O0 := fun a ha => by
    rcases List.mem_append.mp ha with z | z
    · exact List.mem_append_left _ (s.sl.mtsF a z)
    · exact List.mem_append_right _ z
  have em : Ex (msk (O1 ++ O0) H) (msk (O1 ++ O0) H') := fun a o h => by
    obtain ⟨z1, z2⟩ := msk_some h
    rw [msk_out z1]
    exact (msk_some (e a o (by rw [msk_out fun w => z1 (sub a w)]; exact z2))).2
  refine ⟨⟨s'.fr, s.sl.unfrz em (fun a ha hn => ?_) mo s'.sl, s.new, s'.al0⟩, em⟩
  have nm : a ∉ mtsF ρ ++ O0 := fun z => (List.mem_append.mp z).elim hn (s.new a ha).2
  cases q : H a with
  | none => exact absurd q (s.sl.al a ha)
  | some o => exact (msk_some (e a o (by rw [msk_out nm]; exact q))).2
end
section
variable {X : Cx} {ρ : List SD} {P : Po} {rest : List Stmt} {e c : Expr} {d : PyData} {i : Nat} {ds es : List PyData} {pos pos' apos cpos epos : Pos} {x : Str} {D : PyData → Prop}
/-- an expression that reads own lists and gives a flat thing -/
theorem evn_own (mo : MtOk ρ) (h : EvN X (frz ρ) e D) (hf : ∀ d, D d → flatD d = true) : EvN X ρ e D := pe_imp h fun σ H Q ⟨F, O0, O1, s, k⟩ => ⟨F, O0, mtsF ρ, s.frz, fun v d H' s' e' hd r => by
  obtain ⟨s2, em⟩ := s.unfrz mo s' e'
  exact k v d H' s2 em hd (r.flat (hf d hd))⟩
theorem ev_own (mo : MtOk ρ) (h : Ev X (frz ρ) e d) (hf : flatD d = true) : Ev X ρ e d := evn_own mo h fun d' e' => by subst e'; exact hf
theorem et_own {b : Bool} (mo : MtOk ρ) (h : EvT X (frz ρ) e b) : EvT X ρ e b := pt_imp h fun σ H Q ⟨F, O0, O1, s, k⟩ => ⟨F, O0, mtsF ρ, s.frz, fun b H' s' e' hd => by
  obtain ⟨s2, em⟩ := s.unfrz mo s' e'
  exact k b H' s2 em hd⟩
/-- an own list is owned no more -/
theorem hs_freeze (i : Nat) (he : ρ[i]? = some (.own ds)) (h : HSs X rest (ρ.set i (.dat (.list ds))) P) : HSs X rest ρ P := pss_imp h fun D σ H ⟨F, O0, O1, s, q⟩ => by
  obtain ⟨O, s', _⟩ := s.freeze he
  exact ⟨F, O0, O, s', q⟩
/-- a new list, owned -/
theorem hs_setF {E : List PyData → Prop} (hN : X.N.Nodup) (hi : X.N[i]? = some x) (hx : Loc X.env.scope x) (hp : plainAt ρ i = true) (he : EvF X ρ e E) (k : ∀ ds, E ds → HSs X rest (ρ.set i (.own ds)) P) (hs : swapsWith e (some (.Name x pos')) pos.line X.env = pure false := by rfl)
    (hf : X.fn x = true ∨ X.env.scope.names.lookup x = some .local := by first | exact .inl rfl | exact .inr rfl | assumption) : HSs X (.Assign [.Name x pos'] e pos :: rest) ρ P :=
  hs_cons (M := fun r => ∃ ds, E ds ∧ r = ρ.set i (.own ds)) (ps_imp (ps_set hN hi hx he hs hf) fun Dn σ H ⟨F, O0, O1, s, a, b, k, t⟩ => ⟨F, O0, O1, s, fun p xs ds H' s' hF hn hx hr hl hE em => by
    obtain ⟨O, s2⟩ := s'.setOwn hF hn hx hr hl hp
    exact a _ O _ H' ⟨ds, hE, rfl⟩ s2⟩) fun r ⟨ds, hE, z⟩ => by subst z; exact k ds hE
/-- name = [.. for ..]: data, owned -/
theorem hs_setLcO {elt tg iter : Expr} {ifs : List Expr} {scope : Scope} {own : List (Str × Nat)} {E : List PyData → Prop} {B G ρ' Pv} (hc : X.calm = true) (hN : X.N.Nodup) (hy : X.N[i]? = some x) (hyl : X.env.scope.names.lookup x = some .local) (hp : plainAt ρ i = true)
    (hsw : swapsWith (.ListComp elt [⟨tg, iter, ifs, 0⟩] scope pos) (some (.Name x pos')) epos.line X.env = pure true) (L : Lc X ρ elt tg iter ifs scope own E B G ρ' Pv)
    (k : ∀ ds es, E ds → Pv ds ds.length es → HSs X rest (ρ.set i (.own es)) P) (hs : ∀ x, foldedSetIterable iter X.env x = pure x := by intro _; rfl) :
    HSs X (.Assign [.Name x pos'] (.ListComp elt [⟨tg, iter, ifs, 0⟩] scope pos) epos :: rest) ρ P :=
  hs_cons (M := fun r => ∃ ds es, E ds ∧ Pv ds ds.length es ∧ r = ρ.set i (.own es)) (ps_imp (ps_setLc hc hN hy hyl hsw L.hi L.ok L.gA L.tA L.eA hs) fun Dn σ H ⟨F, O0, O1, s, a, b, k, t⟩ => L.rd σ H _ ⟨F, O0, O1, s, fun p xs ds H' s' hF hn hx hr hl ⟨ds0, hE, hP⟩ em => by
    obtain ⟨O, s2⟩ := s'.setOwn hF hn hx hr hl hp
    exact a _ O _ H' ⟨ds0, ds, hE, hP, rfl⟩ s2⟩) fun r ⟨ds, es, hE, hP, z⟩ => by subst z; exact k ds es hE hP
theorem hs_setLc {elt tg iter : Expr} {ifs : List Expr} {scope : Scope} {own : List (Str × Nat)} {E : List PyData → Prop} {B G ρ' Pv} (hc : X.calm = true) (hN : X.N.Nodup) (hy : X.N[i]? = some x) (hyl : X.env.scope.names.lookup x = some .local) (hp : plainAt ρ i = true)
    (hsw : swapsWith (.ListComp elt [⟨tg, iter, ifs, 0⟩] scope pos) (some (.Name x pos')) epos.line X.env = pure true) (L : Lc X ρ elt tg iter ifs scope own E B G ρ' Pv)
    (k : ∀ ds es, E ds → Pv ds ds.length es → HSs X rest (ρ.set i (.dat (.list es))) P) (hs : ∀ x, foldedSetIterable iter X.env x = pure x := by intro _; rfl) :
    HSs X (.Assign [.Name x pos'] (.ListComp elt [⟨tg, iter, ifs, 0⟩] scope pos) epos :: rest) ρ P :=
  hs_cons (M := fun r => ∃ ds es, E ds ∧ Pv ds ds.length es ∧ r = ρ.set i (.dat (.list es))) (ps_imp (ps_setLc hc hN hy hyl hsw L.hi L.ok L.gA L.tA L.eA hs) fun Dn σ H ⟨F, O0, O1, s, a, b, k, t⟩ => L.rd σ H _ ⟨F, O0, O1, s, fun p xs ds H' s' hF hn hx hr hl ⟨ds0, hE, hP⟩ em =>
    a _ O1 _ H' ⟨ds0, ds, hE, hP, rfl⟩ (s'.unmask.set hp (.lst (by rw [msk_out hn]; exact hx) hl (hr.mono (Ex.mskSub sub_cons))))⟩) fun r ⟨ds, es, hE, hP, z⟩ => by subst z; exact k ds es hE hP
/-- name.append(e) -/
theorem hs_appendN (hN : X.N[i]? = some x) (hv : Vis X.env.scope x) (ho : ρ[i]? = some (.own ds)) (he : EvN X ρ e D) (hl : ds.length + 1 ≤ big) (k : ∀ d, D d → HSs X rest (ρ.set i (.own (ds ++ [d]))) P)
    (h1 : (x == ("__debug__" : Str)) = false := by decide) (h2 : (x == ("__classdict__" : Str)) = false := by decide)
    (b1 : attributeBase (.Name x pos) "append" X.env (eval (.Name x pos) X.env) = eval (.Name x pos) X.env := by rfl)
    (b2 : (((backTo cpos (starEach [e] X.env)).all fun z => !z.fst) && (backToKw cpos (keywordEach [] X.env)).all (fun z => z.fst.isSome) && decide ([e].length + ([] : List Keyword).length + (if ([] : List Keyword).isEmpty = true then 0 else 1) < 30)) = true := by rfl)
    (b3 : (apos.endLine == cpos.line) = true := by rfl) (b4 : starEach [e] X.env = (false, eval e X.env) :: starEach [] X.env := by rfl) (b5 : (backTo cpos (starEach [] X.env)).any (fun z => z.fst) = false := by rfl)
    (hs : swapsWith (.Call (.Attribute (.Name x pos) "append" apos) [e] [] cpos) none epos.line X.env = pure false := by rfl) :
    HSs X (.Expr (.Call (.Attribute (.Name x pos) "append" apos) [e] [] cpos) epos :: rest) ρ P :=
  hs_cons (M := fun r => ∃ d, D d ∧ r = ρ.set i (.own (ds ++ [d]))) (ps_imp (ps_expr (pe_bm PySem.F.plainAttrs_list PySem.F.slot_list_append PySem.F.type_list_append mt_append (pe_var hN hv h1 h2) (pa_cons he pa_nil b4) b1 b2 b3 b4 b5) hs) fun Dn σ H ⟨F, O0, O1, s, a, b, k, t⟩ => by
    obtain ⟨p, xs, q1, q2, q3, q4, q5⟩ := s.updOwn ho
    refine ⟨.ref p, q1, .inl ⟨rfl, xs, SqL.of q2⟩, F, O0, O1, s, fun v d H' s' em hd r => ?_⟩
    obtain ⟨p', xs', z1, z2, z3, z4, z5⟩ := s'.updOwn ho
    rw [q1] at z1
    cases z1
    refine ⟨p, xs', v, rfl, rfl, z2, ?_, a _ O1 σ _ ⟨d, hd, rfl⟩ (z5 _ _ (by rw [List.length_append]; exact hl) (z4.append (.cons r .nil)))⟩
    rw [z4.len]
    exact Nat.lt_of_lt_of_le (Nat.lt_succ_self _) (le_line hl)) fun r ⟨d, hd, z⟩ => by subst z; exact k d hd
/-- name.extend(a list) -/
theorem hs_extend (hN : X.N[i]? = some x) (hv : Vis X.env.scope x) (ho : ρ[i]? = some (.own ds)) (he : Ev X ρ e (.list es)) (hl : ds.length + es.length ≤ big) (k : HSs X rest (ρ.set i (.own (ds ++ es))) P)
    (h1 : (x == ("__debug__" : Str)) = false := by decide) (h2 : (x == ("__classdict__" : Str)) = false := by decide)
    (b1 : attributeBase (.Name x pos) "extend" X.env (eval (.Name x pos) X.env) = eval (.Name x pos) X.env := by rfl)
    (b2 : (((backTo cpos (starEach [e] X.env)).all fun z => !z.fst) && (backToKw cpos (keywordEach [] X.env)).all (fun z => z.fst.isSome) && decide ([e].length + ([] : List Keyword).length + (if ([] : List Keyword).isEmpty = true then 0 else 1) < 30)) = true := by rfl)
    (b3 : (apos.endLine == cpos.line) = true := by rfl) (b4 : starEach [e] X.env = (false, eval e X.env) :: starEach [] X.env := by rfl) (b5 : (backTo cpos (starEach [] X.env)).any (fun z => z.fst) = false := by rfl)
    (hs : swapsWith (.Call (.Attribute (.Name x pos) "extend" apos) [e] [] cpos) none epos.line X.env = pure false := by rfl) :
    HSs X (.Expr (.Call (.Attribute (.Name x pos) "extend" apos) [e] [] cpos) epos :: rest) ρ P :=
  hs_cons (M := fun r => r = ρ.set i (.own (ds ++ es))) (ps_imp (ps_expr (pe_bm PySem.F.plainAttrs_list PySem.F.slot_list_extend PySem.F.type_list_extend mt_extend (pe_var hN hv h1 h2) (pa_cons he pa_nil b4) b1 b2 b3 b4 b5) hs) fun Dn σ H ⟨F, O0, O1, s, a, b, k, t⟩ => by
    obtain ⟨p, xs, q1, q2, q3, q4, q5⟩ := s.updOwn ho
    refine ⟨.ref p, q1, .inl ⟨rfl, xs, SqL.of q2⟩, F, O0, O1, s, fun v d H' s' em hd r => ?_⟩
    subst hd
    obtain ⟨p', xs', z1, z2, z3, z4, z5⟩ := s'.updOwn ho
    rw [q1] at z1
    cases z1
    cases r with
    | lst r1 r2 r3 =>
      refine ⟨p, _, xs', _, rfl, rfl, z2, (msk_some r1).2, ?_, a _ O1 σ _ rfl (z5 _ _ (by rw [List.length_append]; exact hl) (z4.append r3))⟩
      rw [z4.len, r3.len]
      exact le_line hl) fun r z => by subst z; exact k
end

/-! ## defs and their calls -/
/-- a def's contract: what it is called with, when, what may come back -/
structure Ct where
  A : Type
  enc : A → List PyData
  pre : A → Prop
  res : A → PyData → Prop
/-- a def that changes nothing -/
def spG (C : Ct) : Sp := fun vs H Q _ => ∃ O a, C.pre a ∧ Al O H ∧ RpA (msk O H) vs (C.enc a) ∧ Kt O H (C.res a) Q
section
variable {P : Program} {w : World} {K : PySem.W.Frag} {mg : Str → Option Value} {base : Heap}
/-- how arguments are bound: some by place, the others by name -/
def Kw (fd : FuncData) (ps : List Str) : Prop := ∀ us ws : List Value, us.length + ws.length = ps.length → bindArgs fd ⟨us, (ps.drop us.length).zip ws⟩ = pure (ps.zip (us ++ ws))
theorem Kw.bd {K : PySem.W.Frag} {fd : FuncData} {ps : List Str} (h : Kw fd ps) : Binds K fd ps [] := .all fun us hl => by
  have q := h us [] (by simpa using hl)
  rw [List.zip_nil_right, List.append_nil] at q
  exact q
theorem Kw.of {fd : FuncData} {ps : List Str} (h : ∀ vs : List Value, vs.length = ps.length → ∀ m, m ≤ ps.length → bindArgs fd ⟨vs.take m, (ps.drop m).zip (vs.drop m)⟩ = pure (ps.zip vs)) : Kw fd ps := fun us ws hl => by
  have q := h (us ++ ws) (by rw [List.length_append]; exact hl) us.length (by omega)
  rw [List.take_left, List.drop_left] at q
  exact q
def kwG {α : Type} (m : Nat) (us ws : List α) : List α := if us.length = m then us ++ ws else []
theorem Kw.kb {K : PySem.W.Frag} {fd : FuncData} {ps : List Str} (h : Kw fd ps) (h0 : ps ≠ []) (m : Nat) : KBinds K fd ps (ps.drop m) (kwG m) (kwG m) := by
  refine ⟨fun s us ws _ hl => ?_, fun {vs us zs ws} r1 r2 => ?_⟩
  · by_cases e : us.length = m
    · unfold kwG at hl ⊢
      rw [if_pos e] at hl ⊢
      rw [List.length_append] at hl
      rw [← e]
      exact .of_eq (h us ws hl)
    · unfold kwG at hl
      rw [if_neg e] at hl
      cases ps with
      | nil => exact absurd rfl h0
      | cons _ _ => cases hl
  · unfold kwG
    rw [r1.length]
    split
    · exact r1.append r2
    · exact .nil
/-- a def of the text, reached by its name -/
structure DefAt (K : PySem.W.Frag) (mg : Str → Option Value) (x : Str) (st : Stmt) (ps : List Str) (f : Addr) (fd : FuncData) : Prop where
  fn : Fun K x x st f fd
  at_ : mg x = some (.ref f)
  kw : Kw fd ps
theorem DefAt.bd {K : PySem.W.Frag} {mg : Str → Option Value} {x : Str} {st : Stmt} {ps : List Str} {f : Addr} {fd : FuncData} (A : DefAt K mg x st ps f fd) : Binds K fd ps [] := A.kw.bd
def Def (P : Program) (w : World) (K : PySem.W.Frag) (mg : Str → Option Value) (base : Heap) (k : Nat) (x : Str) (ps : List Str) (C : Ct) : Prop :=
  ∃ f fd, FnOk P w K mg base CX0 k f fd ps (spG C) ∧ mg x = some (.ref f) ∧ PySem.W.keepIn K (.ref f) = true ∧ Kw fd ps
theorem Def.mono {j k : Nat} {x : Str} {ps : List Str} {C : Ct} (h : Def P w K mg base j x ps C) (l : j ≤ k) : Def P w K mg base k x ps C := by
  obtain ⟨f, fd, a, b⟩ := h
  exact ⟨f, fd, a.mono l, b⟩
theorem Sl.start {Hm H : Hp} : ∀ {vs : List V} {ds : List PyData} {n : Nat}, RpA Hm vs ds → Sl Hm H (ds.map SD.dat ++ List.replicate n SD.un) (vs.map some ++ List.replicate n none) []
  | _, [], n, h => by
    cases h
    induction n with
    | zero => exact .nil
    | succ n ih => exact .un ih
  | _, d :: ds, n, h => by
    cases h with
    | cons h1 h2 => exact .dat h1 (Sl.start h2)
theorem def_mk {x : Str} {st : Stmt} {f : Addr} {fd : FuncData} {N ps : List Str} {k : Nat} {C : Ct} (A : DefAt K mg x st ps f fd) (S : FnScope N ps (defScope st)) (hl : ∀ a, (C.enc a).length = ps.length)
    (body : ∀ a, C.pre a → ∀ (cdv : Value) (A : Around) (outer : List Env) (s : Shared) (H : Hp) (E : XK), Room k (A.deeper (envOfC x (defScope st) s.heap.objs.size f cdv)) →
      HSs (cxOf CX0 P w K mg base N x (defScope st) f cdv A outer s H E).nox (defBody st) ((C.enc a).map SD.dat ++ List.replicate (N.length - (C.enc a).length) SD.un) { nx := fun _ => C.res a .none, rt := fun d _ => C.res a d }) :
    Def P w K mg base (k + 1) x ps C := by
  refine ⟨f, fd, ?_, A.at_, A.fn.kp, A.kw⟩
  refine A.fn.ok S (fun vs H Q E ⟨O, ds, hp, al, r, kt⟩ => by rw [r.len]; exact hl ds) (fun cdv A outer s H vs Q E hr ⟨O, ds, hp, al, r, kt⟩ => ?_)
  refine ⟨_, body ds hp cdv A outer s H E hr, H, O, [], ⟨Ex.refl _, ?_, fun a ha => (by cases ha), al⟩, ?_, ?_, fun _ _ _ _ z => z.elim, fun _ _ _ _ z => z.elim⟩
  · unfold L2.start
    rw [r.len]
    exact Sl.start r
  · intro ρ' O1' σ' H' q s'
    exact kt .non .none H' s'.fr q .non
  · intro v d ρ' O1' σ' H' q s' r'
    exact kt v d H' s'.fr q (r'.mono (Ex.mskSub fun a ha => List.mem_append_right _ ha))
section
variable {X : Cx} {ρ : List SD} {e : Expr} {es : List Expr} {x : Str} {p pos : Pos} {k n : Nat} {ps : List Str} {C : Ct} {D : PyData → Prop} {d : PyData} {ds : List PyData}
theorem evn_call {E : List PyData → Prop} (F : Def X.prog X.w X.K X.mg X.base k x ps C) (hr : Room n X.A) (hg : Gl X x) (ha : EvAN X ρ (e :: es) E) (hG : ∀ ds, E ds → ∃ a, ds = C.enc a ∧ C.pre a ∧ ∀ d, C.res a d → D d) (hkn : k ≤ n := by decide)
    (hdb : (x == ("__debug__" : Str)) = false := by decide) (he : starEach (e :: es) X.env = (false, eval e X.env) :: starEach es X.env := by rfl) (hpl : (backTo pos (starEach es X.env)).any (·.1) = false := by rfl) : EvN X ρ (.Call (.Name x p) (e :: es) [] pos) D := by
  obtain ⟨f, fd, F1, F2, F3, F4⟩ := F
  refine pe_imp (pe_call F1 (hr.mono hkn) hg F2 F3 F4.bd .nil pass0 ha hdb he hpl) fun σ H Q ⟨F, O0, O1, s, q⟩ => ⟨F, O0, O1, s, fun vs ds H1 s1 e1 hd r1 => ?_⟩
  show spG C (vs ++ []) H1 Q E0
  rw [List.append_nil]
  obtain ⟨a, rfl, hp, hD⟩ := hG ds hd
  exact ⟨O1 ++ O0, a, hp, s1.al, r1, fun v d H' e' hd' r => s1.kt e1 q v d H' e' (hD d hd') r⟩
/-- a: the contract's arguments -/
theorem ev_call (F : Def X.prog X.w X.K X.mg X.base k x ps C) (a : C.A) (hr : Room n X.A) (hg : Gl X x) (ha : EvA X ρ (e :: es) (C.enc a)) (hp : C.pre a) (hG : C.res a = Eq d := by rfl) (hkn : k ≤ n := by decide)
    (hdb : (x == ("__debug__" : Str)) = false := by decide) (he : starEach (e :: es) X.env = (false, eval e X.env) :: starEach es X.env := by rfl) (hpl : (backTo pos (starEach es X.env)).any (·.1) = false := by rfl) : Ev X ρ (.Call (.Name x p) (e :: es) [] pos) d :=
  evn_call F hr hg ha (fun ds' e => ⟨a, e.symm, hp, fun d' h => by rw [hG] at h; exact h⟩) hkn hdb he hpl
/-! calls with keywords -/
abbrev EvKN (X : Cx) (ρ : List SD) (kws : List Keyword) (E : List PyData → Prop) : Prop := PK X kws (tAs ρ E)
theorem pk_imp {X : Cx} {kws : List Keyword} {t t' : TA} (h : PK X kws t) (k : ∀ σ H Q, t' σ H Q → t σ H Q) : PK X kws t' := ⟨fun pos pins s σ H Q I q => h.run pos pins s σ H Q I (k σ H Q q)⟩
theorem ek_nil : EvKN X ρ [] (Eq []) := pk_imp pk_nil fun σ H Q ⟨F, O0, O1, s, q⟩ => q [] [] H s (Ex.refl _) rfl .nil
theorem ek_cons {A : PyData → Prop} {E : List PyData → Prop} {kws : List Keyword} {nm : Option Str} {kp : Pos} (ha : EvN X ρ e A) (hr : EvKN X ρ kws E) : EvKN X ρ (⟨nm, e, kp⟩ :: kws) (fun ds => ∃ d r, ds = d :: r ∧ A d ∧ E r) :=
  pk_imp (pk_cons ha hr) fun σ H Q ⟨F, O0, O1, s, q⟩ => ⟨F, O0, O1, s, fun v d H1 s1 e1 hd r1 => ⟨F, O0, O1, s1, fun vs ds H2 s2 e2 hds r2 => q _ _ H2 s2 (e1.trans e2) ⟨d, ds, rfl, hd, hds⟩ (.cons (r1.mono e2) r2)⟩⟩
theorem ek_imp {E E' : List PyData → Prop} {kws : List Keyword} (h : EvKN X ρ kws E) (k : ∀ ds, E ds → E' ds) : EvKN X ρ kws E' := pk_imp h fun σ H Q ⟨F, O0, O1, s, q⟩ => ⟨F, O0, O1, s, fun v d H' s' e' hd r => q v d H' s' e' (k d hd) r⟩
theorem ek_c {d : PyData} {ds : List PyData} {kws : List Keyword} {nm : Option Str} {kp : Pos} (ha : Ev X ρ e d) (hr : EvKN X ρ kws (Eq ds)) : EvKN X ρ (⟨nm, e, kp⟩ :: kws) (Eq (d :: ds)) := ek_imp (ek_cons ha hr) fun z ⟨a, b, h1, h2, h3⟩ => by subst h1; subst h2; subst h3; rfl
theorem pe_callK0 {CX : CXT} {sp : Sp} {E : XK} {f : Addr} {fd : FuncData} {ks : List Str} {g : List Value → List Value → List Value} {gV : List V → List V → List V} {kws : List Keyword} {tk : TA} (F : FnOk X.prog X.w X.K X.mg X.base CX k f fd ps sp) (hr : Room k X.A) (hg : Gl X x) (hm : X.mg x = some (.ref f)) (hk : PySem.W.keepIn X.K (.ref f) = true) (hb : KBinds X.K fd ps ks g gV) (hx : Passes CX X E)
    (hkw : PK X kws tk) (hall : (backToKw pos (keywordEach kws X.env)).all (·.1.isSome) = true := by rfl) (hks : (backToKw pos (keywordEach kws X.env)).filterMap (·.1) = ks := by rfl)
    (hdb : (x == ("__debug__" : Str)) = false := by decide) (hpl : ((backTo pos (starEach [] X.env)).any (·.1) || (backToKw pos (keywordEach kws X.env)).any (·.1.isNone)) = false := by rfl) :
    PE X (.Call (.Name x p) [] kws pos) (fun σ H Q => tk σ H fun zs H2 => sp (gV [] zs) H2 Q E) := by
  refine ⟨fun pins s σ H Q I h => ?_⟩
  refine wpAny_Call_Name_kw (ld_glob I hg hm ?_ hdb)
  refine PySem.W.callWith_KW0 (h₀ := X.base) I.ok.mod.kin hk hall (thn (hkw.run pos pins s σ H _ I h) fun ws s2 ⟨zs, H2, I2, rz, q2⟩ => ⟨I2.kIn, ?_⟩) hpl
  rw [hks]
  exact run_fnk (us := []) (vs := []) F hr hb hx I2 .nil rz q2
theorem evn_callK0 {E : List PyData → Prop} {kws : List Keyword} (F : Def X.prog X.w X.K X.mg X.base k x ps C) (hr : Room n X.A) (hg : Gl X x) (ha : EvKN X ρ kws E) (hG : ∀ ds, E ds → ∃ a, ds = C.enc a ∧ C.pre a ∧ ∀ d, C.res a d → D d) (hps : ps ≠ [] := by decide) (hkn : k ≤ n := by decide)
    (hall : (backToKw pos (keywordEach kws X.env)).all (·.1.isSome) = true := by rfl) (hks : (backToKw pos (keywordEach kws X.env)).filterMap (·.1) = ps.drop 0 := by rfl)
    (hdb : (x == ("__debug__" : Str)) = false := by decide) (hpl : ((backTo pos (starEach [] X.env)).any (·.1) || (backToKw pos (keywordEach kws X.env)).any (·.1.isNone)) = false := by rfl) : EvN X ρ (.Call (.Name x p) [] kws pos) D := by
  obtain ⟨f, fd, F1, F2, F3, F4⟩ := F
  refine pe_imp (pe_callK0 F1 (hr.mono hkn) hg F2 F3 (F4.kb hps 0) pass0 ha hall hks hdb hpl) fun σ H Q ⟨F, O0, O1, s, q⟩ => ⟨F, O0, O1, s, fun vs ds H1 s1 e1 hd r1 => ?_⟩
  show spG C (kwG 0 [] vs) H1 Q E0
  obtain ⟨a, rfl, hp, hD⟩ := hG ds hd
  exact ⟨O1 ++ O0, a, hp, s1.al, r1, fun v d H' e' hd' r => s1.kt e1 q v d H' e' (hD d hd') r⟩
theorem ev_callK0 {kws : List Keyword} (F : Def X.prog X.w X.K X.mg X.base k x ps C) (a : C.A) (hr : Room n X.A) (hg : Gl X x) (ha : EvKN X ρ kws (Eq (C.enc a))) (hp : C.pre a) (hG : C.res a = Eq d := by rfl) (hps : ps ≠ [] := by decide) (hkn : k ≤ n := by decide)
    (hall : (backToKw pos (keywordEach kws X.env)).all (·.1.isSome) = true := by rfl) (hks : (backToKw pos (keywordEach kws X.env)).filterMap (·.1) = ps.drop 0 := by rfl)
    (hdb : (x == ("__debug__" : Str)) = false := by decide) (hpl : ((backTo pos (starEach [] X.env)).any (·.1) || (backToKw pos (keywordEach kws X.env)).any (·.1.isNone)) = false := by rfl) : Ev X ρ (.Call (.Name x p) [] kws pos) d :=
  evn_callK0 F hr hg ha (fun ds' e => ⟨a, e.symm, hp, fun d' h => by rw [hG] at h; exact h⟩) hps hkn hall hks hdb hpl
theorem evn_callK {E1 E2 : List PyData → Prop} {kws : List Keyword} (m : Nat) (F : Def X.prog X.w X.K X.mg X.base k x ps C) (hr : Room n X.A) (hg : Gl X x) (ha1 : EvAN X ρ (e :: es) E1) (ha : EvKN X ρ kws E2) (hG : ∀ d1 ds, E1 d1 → E2 ds → d1.length = m ∧ ∃ a, d1 ++ ds = C.enc a ∧ C.pre a ∧ ∀ d, C.res a d → D d) (hps : ps ≠ [] := by decide) (hkn : k ≤ n := by decide)
    (hall : (backToKw pos (keywordEach kws X.env)).all (·.1.isSome) = true := by rfl) (hks : (backToKw pos (keywordEach kws X.env)).filterMap (·.1) = ps.drop m := by rfl)
    (hdb : (x == ("__debug__" : Str)) = false := by decide) (he : starEach (e :: es) X.env = (false, eval e X.env) :: starEach es X.env := by rfl) (hpl : ((backTo pos (starEach (e :: es) X.env)).any (·.1) || (backToKw pos (keywordEach kws X.env)).any (·.1.isNone)) = false := by rfl) : EvN X ρ (.Call (.Name x p) (e :: es) kws pos) D := by
  obtain ⟨f, fd, F1, F2, F3, F4⟩ := F
  refine pe_imp (pe_callK F1 (hr.mono hkn) hg F2 F3 (F4.kb hps m) pass0 ha1 ha hall hks hdb he hpl) fun σ H Q ⟨F, O0, O1, s, q⟩ => ⟨F, O0, O1, s, fun us d1 H1 s1 e1 hd1 r1 => ⟨F, O0, O1, s1, fun vs ds H2 s2 e2 hd r2 => ?_⟩⟩
  show spG C (kwG m us vs) H2 Q E0
  obtain ⟨hl, a, ea, hp, hD⟩ := hG d1 ds hd1 hd
  unfold kwG
  rw [if_pos (r1.len.trans hl)]
  exact ⟨O1 ++ O0, a, hp, s2.al, by rw [← ea]; exact (r1.mono e2).append r2, fun v d H' e' hd' r => s2.kt (e1.trans e2) q v d H' e' (hD d hd') r⟩
end
end
end PL

namespace PL
open PySem PySem.Spec PyProof.Rows L2

/-! ## isinstance of a built-in class -/
def tyD : PyData → String
  | .none => "NoneType"
  | .bool _ => "bool"
  | .int _ => "int"
  | .str _ => "str"
  | .list _ => "list"
  | .tuple _ => "tuple"
  | .dict _ => "dict"
def isInt : PyData → Bool
  | .bool _ => true
  | .int _ => true
  | _ => false
def isBool : PyData → Bool
  | .bool _ => true
  | _ => false
def isTup : PyData → Bool
  | .tuple _ => true
  | _ => false
def isStrD : PyData → Bool
  | .str _ => true
  | _ => false
theorem kit_int (d : PyData) (h : ∀ kvs, d ≠ .dict kvs) : kitB (tyD d) "int" = some (isInt d) := by
  cases d with
  | none => show kitB "NoneType" "int" = some false; decide +kernel
  | bool _ => show kitB "bool" "int" = some true; decide +kernel
  | int _ => show kitB "int" "int" = some true; decide +kernel
  | str _ => show kitB "str" "int" = some false; decide +kernel
  | list _ => show kitB "list" "int" = some false; decide +kernel
  | tuple _ => show kitB "tuple" "int" = some false; decide +kernel
  | dict kvs => exact absurd rfl (h kvs)
theorem kit_bool (d : PyData) (h : ∀ kvs, d ≠ .dict kvs) : kitB (tyD d) "bool" = some (isBool d) := by
  cases d with
  | none => show kitB "NoneType" "bool" = some false; decide +kernel
  | bool _ => show kitB "bool" "bool" = some true; decide +kernel
  | int _ => show kitB "int" "bool" = some false; decide +kernel
  | str _ => show kitB "str" "bool" = some false; decide +kernel
  | list _ => show kitB "list" "bool" = some false; decide +kernel
  | tuple _ => show kitB "tuple" "bool" = some false; decide +kernel
  | dict kvs => exact absurd rfl (h kvs)
theorem kit_tup (d : PyData) (h : ∀ kvs, d ≠ .dict kvs) : kitB (tyD d) "tuple" = some (isTup d) := by
  cases d with
  | none => show kitB "NoneType" "tuple" = some false; decide +kernel
  | bool _ => show kitB "bool" "tuple" = some false; decide +kernel
  | int _ => show kitB "int" "tuple" = some false; decide +kernel
  | str _ => show kitB "str" "tuple" = some false; decide +kernel
  | list _ => show kitB "list" "tuple" = some false; decide +kernel
  | tuple _ => show kitB "tuple" "tuple" = some true; decide +kernel
  | dict kvs => exact absurd rfl (h kvs)
theorem kit_str (d : PyData) (h : ∀ kvs, d ≠ .dict kvs) : kitB (tyD d) "str" = some (isStrD d) := by
  cases d with
  | none => show kitB "NoneType" "str" = some false; decide +kernel
  | bool _ => show kitB "bool" "str" = some false; decide +kernel
  | int _ => show kitB "int" "str" = some false; decide +kernel
  | str _ => show kitB "str" "str" = some true; decide +kernel
  | list _ => show kitB "list" "str" = some false; decide +kernel
  | tuple _ => show kitB "tuple" "str" = some false; decide +kernel
  | dict kvs => exact absurd rfl (h kvs)
theorem Rp.nodict {H : Hp} {v : V} {d : PyData} (r : Rp H v d) : ∀ kvs, d ≠ .dict kvs := fun kvs e => by subst e; cases r
theorem Rp.ty {K : PySem.W.Frag} {H : Hp} {v : V} {d : PyData} (r : Rp H v d) : TyX K H v (.type (tyD d)) := by
  cases r with
  | non => exact .base .non
  | bl b => exact .base (.bl b)
  | int i => exact .base (.int i)
  | str x l => exact .base (.str x)
  | lst h _ _ => exact .base (.lst h)
  | tup h _ _ => exact .base (.tup h)
section
variable {X : Cx} {ρ : List SD} {a b c : Expr} {es : List Expr} {d da db : PyData} {p p2 pos : Pos} {x : Str} {T : String}
theorem ev_isi {k : Bool} (hg : Gl X "isinstance") (hm : X.mg "isinstance" = none) (hg2 : Gl X x) (hm2 : X.mg x = none) (hv : bootBuiltins x = some (.type T)) (ha : Ev X ρ a d) (hk : (∀ kvs, d ≠ .dict kvs) → kitB (tyD d) T = some k)
    (hn : x ≠ "__name__" := by decide) (hdb : (x == ("__debug__" : Str)) = false := by decide)
    (he : starEach [a, .Name x p2] X.env = (false, eval a X.env) :: starEach [.Name x p2] X.env := by rfl) (he2 : starEach [.Name x p2] X.env = (false, eval (.Name x p2) X.env) :: starEach [] X.env := by rfl) (hpl : (backTo pos (starEach [.Name x p2] X.env)).any (·.1) = false := by rfl) :
    Ev X ρ (.Call (.Name "isinstance" p) [a, .Name x p2] [] pos) (.bool k) :=
  pe_imp (pe_callB call_isi hg hm (by decide +kernel) (pa_cons ha (pa_cons (pe_bltn (v := .ty T) hg2 hm2 hv rfl hn hdb) pa_nil he2) he) (by decide) (by decide) he hpl) fun σ H Q ⟨F, O0, O1, s, q⟩ => ⟨F, O0, O1, s, fun v d' H1 s1 e1 hd r1 => by
    subst hd
    exact ⟨v, .ty T, .type (tyD d), .type T, k, rfl, .ty T, (r1.mono Ex.unmsk).ty, kit_ty (hk r1.nodict), q _ _ H1 s1 e1 rfl (.bl k)⟩⟩
theorem ev_isInt (hg : Gl X "isinstance") (hm : X.mg "isinstance" = none) (hg2 : Gl X "int") (hm2 : X.mg "int" = none) (ha : Ev X ρ a d) (he : starEach [a, .Name "int" p2] X.env = (false, eval a X.env) :: starEach [.Name "int" p2] X.env := by rfl) (he2 : starEach [.Name "int" p2] X.env = (false, eval (.Name "int" p2) X.env) :: starEach [] X.env := by rfl) :
    Ev X ρ (.Call (.Name "isinstance" p) [a, .Name "int" p2] [] pos) (.bool (isInt d)) := ev_isi hg hm hg2 hm2 (by decide +kernel) ha (kit_int d) (by decide) (by decide) he he2
theorem ev_isBool (hg : Gl X "isinstance") (hm : X.mg "isinstance" = none) (hg2 : Gl X "bool") (hm2 : X.mg "bool" = none) (ha : Ev X ρ a d) (he : starEach [a, .Name "bool" p2] X.env = (false, eval a X.env) :: starEach [.Name "bool" p2] X.env := by rfl) (he2 : starEach [.Name "bool" p2] X.env = (false, eval (.Name "bool" p2) X.env) :: starEach [] X.env := by rfl) :
    Ev X ρ (.Call (.Name "isinstance" p) [a, .Name "bool" p2] [] pos) (.bool (isBool d)) := ev_isi hg hm hg2 hm2 (by decide +kernel) ha (kit_bool d) (by decide) (by decide) he he2
theorem ev_isTup (hg : Gl X "isinstance") (hm : X.mg "isinstance" = none) (hg2 : Gl X "tuple") (hm2 : X.mg "tuple" = none) (ha : Ev X ρ a d) (he : starEach [a, .Name "tuple" p2] X.env = (false, eval a X.env) :: starEach [.Name "tuple" p2] X.env := by rfl) (he2 : starEach [.Name "tuple" p2] X.env = (false, eval (.Name "tuple" p2) X.env) :: starEach [] X.env := by rfl) :
    Ev X ρ (.Call (.Name "isinstance" p) [a, .Name "tuple" p2] [] pos) (.bool (isTup d)) := ev_isi hg hm hg2 hm2 (by decide +kernel) ha (kit_tup d) (by decide) (by decide) he he2
theorem ev_isStr (hg : Gl X "isinstance") (hm : X.mg "isinstance" = none) (hg2 : Gl X "str") (hm2 : X.mg "str" = none) (ha : Ev X ρ a d) (he : starEach [a, .Name "str" p2] X.env = (false, eval a X.env) :: starEach [.Name "str" p2] X.env := by rfl) (he2 : starEach [.Name "str" p2] X.env = (false, eval (.Name "str" p2) X.env) :: starEach [] X.env := by rfl) :
    Ev X ρ (.Call (.Name "isinstance" p) [a, .Name "str" p2] [] pos) (.bool (isStrD d)) := ev_isi hg hm hg2 hm2 (by decide +kernel) ha (kit_str d) (by decide) (by decide) he he2

/-! ## in -/
theorem op_inT (hu : X.A.units + 65 < cLine) : OpR X (compareOp .In) (fun x y H Q => ∃ d ds, Dp X.K H x d ∧ Dp X.K H y (.tuple ds) ∧ SeqAt.shaped d = true ∧ SeqAt.shaped (.tuple ds) = true ∧ Q (.bl (ds.any fun z => PyData.eqv z d)) H) := by
  intro pins s σ H x y v u Q I rx ry h
  obtain ⟨d, ds, hd, he, sd, se, q⟩ := h
  obtain ⟨as, r1⟩ := Dp.reads I d x v hd rx
  obtain ⟨bs, r2⟩ := Dp.reads I (.tuple ds) y u he ry
  exact SeqAt.in_tuple_reads r2 r1 (SeqAt.canLay_of_shaped se) (SeqAt.canLay_of_shaped sd) (room_in_shaped sd hu) ⟨.bl _, H, I, rfl, q⟩
theorem op_notInT (hu : X.A.units + 65 < cLine) : OpR X (compareOp .NotIn) (fun x y H Q => ∃ d ds, Dp X.K H x d ∧ Dp X.K H y (.tuple ds) ∧ SeqAt.shaped d = true ∧ SeqAt.shaped (.tuple ds) = true ∧ Q (.bl (!ds.any fun z => PyData.eqv z d)) H) := by
  intro pins s σ H x y v u Q I rx ry h
  obtain ⟨d, ds, hd, he, sd, se, q⟩ := h
  obtain ⟨as, r1⟩ := Dp.reads I d x v hd rx
  obtain ⟨bs, r2⟩ := Dp.reads I (.tuple ds) y u he ry
  exact SeqAt.notIn_tuple_reads r2 r1 (SeqAt.canLay_of_shaped se) (SeqAt.canLay_of_shaped sd) (room_in_shaped sd hu) ⟨.bl _, H, I, rfl, q⟩
theorem room65 {n : Nat} (hr : Room n X.A) : X.A.units + 65 < cLine := by have := hr.un; omega
def inD (d : PyData) (ds : List PyData) : Bool := ds.any fun z => PyData.eqv z d
section
variable {n : Nat} {ds : List PyData} {k : Bool}
theorem ev_inT (hr : Room n X.A) (ha : Ev X ρ a d) (hb : Ev X ρ b (.tuple ds)) (sa : SeqAt.shaped d = true) (sb : SeqAt.shaped (.tuple ds) = true) (e : inD d ds = k) (hm : behindInMarks .In b = false := by rfl) : Ev X ρ (.Compare a [.In] [b] pos) (.bool k) := by
  subst e
  exact ev_cmp (op_inT (room65 hr)) ha hb (fun O H x y Q al hx hy q => ⟨d, ds, (hx.mono Ex.unmsk).dp, (hy.mono Ex.unmsk).dp, sa, sb, q.here rfl (.bl _)⟩) hm
theorem ev_inL (hr : Room n X.A) (ha : Ev X ρ a d) (hb : Ev X ρ b (.list ds)) (sa : SeqAt.shaped d = true) (sb : SeqAt.shaped (.list ds) = true) (e : inD d ds = k) (hm : behindInMarks .In b = false := by rfl) : Ev X ρ (.Compare a [.In] [b] pos) (.bool k) := by
  subst e
  exact ev_cmp (op_inD (room65 hr)) ha hb (fun O H x y Q al hx hy q => ⟨d, ds, (hx.mono Ex.unmsk).dp, (hy.mono Ex.unmsk).dp, sa, sb, q.here rfl (.bl _)⟩) hm
theorem ev_ninT (hr : Room n X.A) (ha : Ev X ρ a d) (hb : Ev X ρ b (.tuple ds)) (sa : SeqAt.shaped d = true) (sb : SeqAt.shaped (.tuple ds) = true) (e : (!inD d ds) = k) (hm : behindInMarks .NotIn b = false := by rfl) : Ev X ρ (.Compare a [.NotIn] [b] pos) (.bool k) := by
  subst e
  exact ev_cmp (op_notInT (room65 hr)) ha hb (fun O H x y Q al hx hy q => ⟨d, ds, (hx.mono Ex.unmsk).dp, (hy.mono Ex.unmsk).dp, sa, sb, q.here rfl (.bl _)⟩) hm
theorem ev_ninL (hr : Room n X.A) (ha : Ev X ρ a d) (hb : Ev X ρ b (.list ds)) (sa : SeqAt.shaped d = true) (sb : SeqAt.shaped (.list ds) = true) (e : (!inD d ds) = k) (hm : behindInMarks .NotIn b = false := by rfl) : Ev X ρ (.Compare a [.NotIn] [b] pos) (.bool k) := by
  subst e
  exact ev_cmp (op_notInD (room65 hr)) ha hb (fun O H x y Q al hx hy q => ⟨d, ds, (hx.mono Ex.unmsk).dp, (hy.mono Ex.unmsk).dp, sa, sb, q.here rfl (.bl _)⟩) hm
theorem et_inT (hr : Room n X.A) (ha : Ev X ρ a d) (hb : Ev X ρ b (.tuple ds)) (sa : SeqAt.shaped d = true) (sb : SeqAt.shaped (.tuple ds) = true) (e : inD d ds = k) (hm : behindInMarks .In b = false := by rfl) : EvT X ρ (.Compare a [.In] [b] pos) k := by
  subst e
  exact et_cmp (op_inT (room65 hr)) ha hb (fun O H x y Q al hx hy q => ⟨d, ds, (hx.mono Ex.unmsk).dp, (hy.mono Ex.unmsk).dp, sa, sb, q.here rfl (.bl _)⟩) hm
theorem et_inL (hr : Room n X.A) (ha : Ev X ρ a d) (hb : Ev X ρ b (.list ds)) (sa : SeqAt.shaped d = true) (sb : SeqAt.shaped (.list ds) = true) (e : inD d ds = k) (hm : behindInMarks .In b = false := by rfl) : EvT X ρ (.Compare a [.In] [b] pos) k := by
  subst e
  exact et_cmp (op_inD (room65 hr)) ha hb (fun O H x y Q al hx hy q => ⟨d, ds, (hx.mono Ex.unmsk).dp, (hy.mono Ex.unmsk).dp, sa, sb, q.here rfl (.bl _)⟩) hm
theorem et_ninT (hr : Room n X.A) (ha : Ev X ρ a d) (hb : Ev X ρ b (.tuple ds)) (sa : SeqAt.shaped d = true) (sb : SeqAt.shaped (.tuple ds) = true) (e : (!inD d ds) = k) (hm : behindInMarks .NotIn b = false := by rfl) : EvT X ρ (.Compare a [.NotIn] [b] pos) k := by
  subst e
  exact et_cmp (op_notInT (room65 hr)) ha hb (fun O H x y Q al hx hy q => ⟨d, ds, (hx.mono Ex.unmsk).dp, (hy.mono Ex.unmsk).dp, sa, sb, q.here rfl (.bl _)⟩) hm
theorem et_ninL (hr : Room n X.A) (ha : Ev X ρ a d) (hb : Ev X ρ b (.list ds)) (sa : SeqAt.shaped d = true) (sb : SeqAt.shaped (.list ds) = true) (e : (!inD d ds) = k) (hm : behindInMarks .NotIn b = false := by rfl) : EvT X ρ (.Compare a [.NotIn] [b] pos) k := by
  subst e
  exact et_cmp (op_notInD (room65 hr)) ha hb (fun O H x y Q al hx hy q => ⟨d, ds, (hx.mono Ex.unmsk).dp, (hy.mono Ex.unmsk).dp, sa, sb, q.here rfl (.bl _)⟩) hm
end
/-! max(a, b), min(a, b) -/
theorem ev_max2 {i j : Int} (hc : X.calm = true) (hg : Gl X "max") (hm : X.mg "max" = none) (ha : Ev X ρ a (.int i)) (hb : Ev X ρ b (.int j)) (he : starEach [a, b] X.env = (false, eval a X.env) :: starEach [b] X.env := by rfl) (he2 : starEach [b] X.env = (false, eval b X.env) :: starEach [] X.env := by rfl) (hpl : (backTo pos (starEach [b] X.env)).any (·.1) = false := by rfl) :
    Ev X ρ (.Call (.Name "max" p) [a, b] [] pos) (.int (if j > i then j else i)) :=
  ev_callB (call_max2 hc) hg hm (by decide +kernel) (ea_cons ha (ea_cons hb ea_nil he2) he) (fun O H xs Q al r k => by
    obtain ⟨v, w, rfl, r1, r2⟩ := rpA2 r
    cases r1; cases r2
    exact ⟨i, j, rfl, k.here rfl (.int _)⟩) (by decide) (by decide) he hpl
theorem ev_min2 {i j : Int} (hc : X.calm = true) (hg : Gl X "min") (hm : X.mg "min" = none) (ha : Ev X ρ a (.int i)) (hb : Ev X ρ b (.int j)) (he : starEach [a, b] X.env = (false, eval a X.env) :: starEach [b] X.env := by rfl) (he2 : starEach [b] X.env = (false, eval b X.env) :: starEach [] X.env := by rfl) (hpl : (backTo pos (starEach [b] X.env)).any (·.1) = false := by rfl) :
    Ev X ρ (.Call (.Name "min" p) [a, b] [] pos) (.int (if j < i then j else i)) :=
  ev_callB (call_min2 hc) hg hm (by decide +kernel) (ea_cons ha (ea_cons hb ea_nil he2) he) (fun O H xs Q al r k => by
    obtain ⟨v, w, rfl, r1, r2⟩ := rpA2 r
    cases r1; cases r2
    exact ⟨i, j, rfl, k.here rfl (.int _)⟩) (by decide) (by decide) he hpl
end

/-! ## several targets -/
section
variable {X : Cx} {ρ ρ1 : List SD} {P : Po} {rest : List Stmt} {e tg : Expr} {es : List Expr} {d : PyData} {pos pos' : Pos} {js : List Nat}
/-- target = value, the target of any form -/
theorem hs_asg (he : Ev X ρ e d) (hg : EvG X tg ρ d ρ1 js) (k : HSs X rest ρ1 P) (hs : swapsWithSole [tg] e pos.line X.env = pure false := by rfl) (hw : swappedStores [tg] e X.env = pure none := by rfl)
    (h1 : (assignEach [tg] X.env).map (·.2) = [assign tg X.env] := by rfl) : HSs X (.Assign [tg] e pos :: rest) ρ P :=
  hs_cons (M := (· = ρ1)) (ps_imp (ps_asg he hg hs hw h1) fun Dn σ H ⟨F, O0, O1, s, a, b, k, t⟩ => ⟨F, O0, O1, s, fun v d' H' s' e' hd r => by
    subst hd
    exact ⟨F, O0, O1, s', r, fun σ' _ s2 => a ρ1 O1 σ' H' rfl s2⟩⟩) fun r z => by subst z; exact k
def setAll (ρ : List SD) : List Nat → List PyData → List SD
  | i :: is, d :: ds => setAll (ρ.set i (.dat d)) is ds
  | _, _ => ρ
theorem store_names {pins : List (Addr × Obj)} {F H : Hp} {O0 O1 : List Addr} {Q : Unit → Shared → Prop} (hN : X.N.Nodup) : ∀ (ns : List (Str × Nat)) (vs : List V) (us : List Value) (ds : List PyData) (ρ : List SD) (σ : Sg) (s : Shared),
    (∀ n ∈ ns, X.N[n.2]? = some n.1 ∧ X.env.scope.names.lookup n.1 = some .local ∧ plainAt ρ n.2 = true) → Inv X pins σ H s → Vals vs us → RpA (msk (O1 ++ O0) H) vs ds → SA F O0 O1 ρ σ H → ns.length = ds.length →
    (∀ σ' s', Inv X pins σ' H s' → SA F O0 O1 (setAll ρ (ns.map (·.2)) ds) σ' H → Q () s') → wpAny (model X.prog X.w) X.A (assignInOrder (ns.map fun n => bindName X.env n.1) us) Q X.xe s
  | [], vs, us, ds, ρ, σ, s, ok, I, rv, rp, sa, hl, k => by
    cases ds with
    | nil =>
      cases rp; cases rv
      exact assignInOrder_nil (k σ s I sa)
    | cons _ _ => cases hl
  | n :: ns, vs, us, ds, ρ, σ, s, ok, I, rv, rp, sa, hl, k => by
    cases ds with
    | nil => cases hl
    | cons d ds =>
      cases rp with
      | cons r1 r2 =>
        cases rv with
        | cons q1 q2 =>
          obtain ⟨o1, o2, o3⟩ := ok n List.mem_cons_self
          refine assignInOrder_cons (wpAny_bindName (store_ok I hN o1 (.inl o2) q1 (fun s2 I2 => ?_) (.inr o2)))
          exact store_names hN ns _ _ ds (ρ.set n.2 (.dat d)) _ s2 (fun m hm => ⟨(ok m (List.mem_cons_of_mem _ hm)).1, (ok m (List.mem_cons_of_mem _ hm)).2.1, plainAt_set (ok m (List.mem_cons_of_mem _ hm)).2.2 rfl⟩) I2 q2 r2 (sa.set o3 r1) (Nat.succ.inj hl) k
theorem RpA.reverse {H : Hp} {vs : List V} {ds : List PyData} (r : RpA H vs ds) : RpA H vs.reverse ds.reverse := by
  induction ds generalizing vs with
  | nil => cases r; exact .nil
  | cons d ds ih =>
    cases r with
    | cons r1 r2 =>
      rw [List.reverse_cons, List.reverse_cons]
      exact (ih r2).append (.cons r1 .nil)
theorem Vals.reverse {vs : List V} {us : List Value} (r : Vals vs us) : Vals vs.reverse us.reverse := by
  induction us generalizing vs with
  | nil => cases r; exact .nil
  | cons d ds ih =>
    cases r with
    | cons r1 r2 =>
      rw [List.reverse_cons, List.reverse_cons]
      exact (ih r2).append (.cons r1 .nil)
/-- a, b(, c) = x, y(, z), all plain local names: ns, with their slots, from the left -/
theorem hs_parN {E : List PyData → Prop} {elts : List Expr} {kt k2 : Nat} {tp pt2 : Pos} (ns : List (Str × Nat)) (hc : X.calm = true) (hN : X.N.Nodup) (hns : (ns.all fun n => decide (X.N[n.2]? = some n.1) && decide (X.env.scope.names.lookup n.1 = some .local) && plainAt ρ n.2) = true)
    (ha : EvAN X ρ es E) (hE : ∀ ds, E ds → ds.length = ns.length) (hln : ns.length ≤ big) (k : ∀ ds, E ds → HSs X rest (setAll ρ (ns.reverse.map (·.2)) ds.reverse) P)
    (hw : swappedStores [.Tuple elts kt tp] (.Tuple es k2 pt2) X.env = pure (some (ns.map (·.1)))) (hs : swapsWithSole [.Tuple elts kt tp] (.Tuple es k2 pt2) pos.line X.env = pure false := by rfl) :
    HSs X (.Assign [.Tuple elts kt tp] (.Tuple es k2 pt2) pos :: rest) ρ P := by
  have ok : ∀ n ∈ ns, X.N[n.2]? = some n.1 ∧ X.env.scope.names.lookup n.1 = some .local ∧ plainAt ρ n.2 = true := fun n hn => by
    have h := List.all_eq_true.mp hns n hn
    simp only [Bool.and_eq_true, decide_eq_true_eq] at h
    exact ⟨h.1.1, h.1.2, h.2⟩
  refine hs_cons (M := fun r => ∃ ds, E ds ∧ r = setAll ρ (ns.reverse.map (·.2)) ds.reverse) ?_ fun r ⟨ds, h, z⟩ => by subst z; exact k ds h
  refine ⟨fun pins s σ H D I ⟨F, O0, O1, sa, nx, rt, bk, ct⟩ => ?_⟩
  refine Assign_Tuple_swapped (thn ((pe_tup (X := X) ha).run pins s σ H (fun v H' => ∃ p vs ds H1, v = .ref p ∧ E ds ∧ H1 p = none ∧ H' = upd H1 p (.tup vs) ∧ RpA (msk (O1 ++ O0) H') vs ds ∧ SA F O0 O1 ρ σ H') I ⟨F, O0, O1, sa, fun vs ds H1 s1 e1 hd r1 => ⟨by rw [r1.len, hE ds hd]; exact le_line hln, fun p hp =>
    ⟨p, vs, ds, H1, rfl, hd, hp, rfl, r1.mono (Ex.new hp).msk, s1.ex (Ex.new hp)⟩⟩⟩) fun v s1 ⟨x, H1, I1, rv, p, vs, ds, H0, ex, hd, hp, eH, rp, s2⟩ => ?_) hs hw
  subst ex
  obtain rfl : v = Value.ref p := rv
  have hH : H1 p = some (.tup vs) := by rw [eH, upd_same]
  obtain ⟨its, rt', pt, _⟩ := I1.tuple (SqT.of hH)
  have hlen : (ns.map (·.1)).length = its.toArray.size := by rw [List.length_map, List.size_toArray, ← rt'.length, rp.len, hE ds hd]
  rw [hlen]
  refine unpackItems_tuple (I1.ok.hd hc) pt fun h' hx => ?_
  have I2 : Inv X pins σ H1 { s1 with heap := h' } := I1.kept (t' := s1.toks) fun b o e => hx b o (Nat.ne_of_lt (Heap.lt_size e)) e
  have em : ((ns.map (·.1)).reverse.map fun n => bindName X.env n) = ns.reverse.map fun n => bindName X.env n.1 := by
    rw [← List.map_reverse, List.map_map]; rfl
  rw [em]
  have hr2 : Vals vs.reverse its.toArray.toList.reverse := Vals.reverse (by simpa using rt')
  refine store_names hN ns.reverse vs.reverse _ ds.reverse ρ σ _ (fun n hn => ok n (List.mem_reverse.mp hn)) I2 hr2 rp.reverse s2 (by rw [List.length_reverse, List.length_reverse, hE ds hd]) fun σ' s' I' sa' => ?_
  exact ⟨σ', H1, I', nx _ O1 σ' H1 ⟨ds, hd, rfl⟩ sa'⟩
end
end PL

namespace PySem
open Sem (wp)
set_option maxHeartbeats 1000000 in
theorem pl_meets_enumerate_new1 {v : Value} {o : Obj} {H : Heap → Prop} (B : Begins v o H) :
    Meets (Builtin.«enumerate.__new__» ⟨[.type "enumerate", v], []⟩) (fun _ R s => H s.heap ∧
      R (.ok (.ret (.ref (s.heap.push o).objs.size))) { s with heap := (s.heap.push o).push { cls := .type "enumerate", data := .fields #[.none, .bool false, .ref s.heap.objs.size, rawInt 0, .none, .none] } }) :=
  .of_wp fun prog w A R s h => by
    obtain ⟨hp, g, d, tk, os⟩ := s; obtain ⟨h1, h⟩ := h
    have hsub := sub_enumerate
    have q1 : ∀ {A' : Around} {E : Value → Shared → Prop} {Q : Value → Shared → Prop}, Q (.ref hp.objs.size) ⟨hp.push o, g, d, tk, os⟩ → wpAny (model prog w) A' (pyIter v) Q E ⟨hp, g, d, tk, os⟩ :=
      fun q => B.iter prog w _ _ ⟨hp, g, d, tk, os⟩ _ h1 q
    wp_walk using q1
    refine wpAny_stack_any fun st => wpAny_pure ?_
    split
    · rename_i c _ _ _ _ _
      cases (c == Value.type "enumerate")
      · wp_walk using q1
        exact ⟨_, rfl, h⟩
      · wp_walk using q1
        exact ⟨_, rfl, h⟩
    · wp_walk using q1
      exact ⟨_, rfl, h⟩
section
variable {prog : Program} {w : World} {A : Around} {E : Value → Shared → Prop} {s : Shared}
theorem pl_enum_begins1 {v : Value} {o : Obj} {H : Heap → Prop} {Q : Value → Shared → Prop} (B : Begins v o H) (h1 : H s.heap)
    (h : ∀ h', IsEnum h' (s.heap.objs.size + 1) s.heap.objs.size 0 .none → h'.get? s.heap.objs.size = some o → h'.objs.size = s.heap.objs.size + 2 →
      (∀ b o, s.heap.get? b = some o → h'.get? b = some o) → Q (.ref (s.heap.objs.size + 1)) { s with heap := h' }) :
    wpAny (model prog w) A (call (.type "enumerate") [v]) Q E s := by
  refine callType_new F.called_enumerate (by decide) (F.typeCall_enumerate_1 _) (F.newCall_enumerate_1 _) (fun obj => F.args_object_init_2 obj _) F.entry_enumerate_new
    (pl_meets_enumerate_new1 B) ⟨h1, ?_⟩
  have hz : (s.heap.push o).objs.size = s.heap.objs.size + 1 := Heap.size_push ..
  show _ ∧ _
  rw [hz]
  have he : IsEnum ((s.heap.push o).push { cls := .type "enumerate", data := .fields #[.none, .bool false, .ref s.heap.objs.size, rawInt 0, .none, .none] }) (s.heap.objs.size + 1) s.heap.objs.size 0 .none := by
    have := Heap.get?_push_size (s.heap.push o) (o := { cls := .type "enumerate", data := .fields #[.none, .bool false, .ref s.heap.objs.size, rawInt 0, .none, .none] }) rfl
    rw [hz] at this; exact this
  refine ⟨⟨_, he, rfl⟩, h _ he (Heap.get?_push_of_some _ (Heap.get?_push_size _ B.free)) (by rw [Heap.size_push, hz]) fun b o x => Heap.get?_push_of_some _ (Heap.get?_push_of_some _ x)⟩
end
end PySem
namespace PL
open PySem PySem.Spec PyProof.Rows L2
/-! ## enumerate(tuple) -/
def IteT (K : PySem.W.Frag) (a : Addr) : It :=
  ⟨fun i H => ∃ (xs : List V) (x : V), SqT K H a xs ∧ xs[i]? = some x, fun i H v H' => ∃ T x, v = .ref T ∧ H T = none ∧ H' = upd H T (.tup [.int (i : Nat), x]) ∧ ∀ xs, SqT K H a xs → xs[i]? = some x, fun i H => ∃ xs : List V, SqT K H a xs ∧ xs.length ≤ i⟩
theorem turn_enumT {P : Program} {w : World} {K : PySem.W.Frag} {elts : List Expr} {kk : Nat} {tpos : Pos} (a e it : Addr) :
    Turn P w K (.Tuple elts kk tpos) (IteT K a) [e, it] e (fun i h => (∃ old, IsEnum h e it ((i : Nat) : Int) old) ∧ h.IsTupleIter it a i ∧ e ≠ it ∧ a ≠ it ∧ a ≠ e) where
  mem := by simp
  obj := fun i h st b hb => by
    obtain ⟨⟨old, he⟩, ⟨o, ho, hc, hd⟩, _⟩ := st
    have e' : b = e ∨ b = it := by simpa using hb
    rcases e' with z | z
    · rw [z]; exact ⟨_, he, fun v q => nomatch q⟩
    · rw [z]; exact ⟨o, ho, fun v q => by rw [hd] at q; cases q⟩
  keep := fun i h h' st k => let ⟨⟨old, he⟩, hi, hne⟩ := st; ⟨⟨old, k e (by simp) _ he⟩, hi.at fun o q => k it (by simp) o q, hne⟩
  item := by
    intro X hP hw hK hc i pins s σ H E I hf st hg
    subst hP hw hK
    obtain ⟨⟨old, he⟩, hit, hne, ha1, ha2⟩ := st
    obtain ⟨xs, x, hq, hx⟩ := hg
    obtain ⟨its, rv, p, hz⟩ := I.tuple hq
    obtain ⟨u, hu, ru⟩ := rv.get hx
    have hel : e < s.heap.objs.size := Heap.lt_size he
    have hil : it < s.heap.objs.size := by obtain ⟨_, q, _⟩ := hit; exact Heap.lt_size q
    have hlt : i < its.toArray.size := by
      have := (List.getElem?_eq_some_iff.mp hu).1
      simpa using this
    refine wpAny_pyNext_enum_itemD (Draws.tuple (A := X.A.in1) (show X.A.in1.handled = none from I.ok.hd hc) it a ha1 its.toArray) he ⟨hit, show s.heap.IsTuple a its.toArray from p⟩ hlt hne (by
      intro z
      rcases List.mem_cons.mp z with z | z
      · exact hne z
      · exact ha2 (List.mem_singleton.mp z).symm) fun u' h' tk hu' ho hit' hT hsz hk => ?_
    have eu : u' = u := by
      have h1 : its.toArray[i]? = some u := by simpa using hu
      rw [h1] at hu'
      exact (Option.some.inj hu').symm
    subst eu
    refine ⟨_, rfl, wpAny_letOwnedTupleGo_enum (s := { s with heap := h', toks := tk + 1 }) ho fun h'' he' sb => ?_⟩
    have hT2 : h''.get? s.heap.objs.size = some { cls := .type "tuple", data := .seq #[.int i tk, u'] } := (sb.2 _ (Nat.ne_of_gt hel)).trans hT
    have new : ObjOk X.prog X.w (upd H s.heap.objs.size (.tup [.int (i : Nat), x])) h'' s.heap.objs.size (.tup [.int (i : Nat), x]) :=
      ⟨by show 2 ≤ sizeLine; decide, [.int i tk, u'], .cons ⟨_, rfl⟩ (.cons ru .nil), ⟨_, hT2, rfl, _, rfl⟩⟩
    have I1 : Inv X pins σ (upd H s.heap.objs.size (.tup [.int (i : Nat), x])) { s with heap := h'', toks := tk + 1 } :=
      I.turnedNew (ch := [e, it]) (fun b ob hb q => (sb.2 b (fun z => hb (by simp [z]))).trans (hk b ob (fun z => hb (by simp [z])) (fun z => hb (by simp [z])) q)) hf (Nat.le_refl _) new
    refine ⟨.ref s.heap.objs.size, _, I1, rfl, ⟨_, x, rfl, I.hok.fresh (Nat.le_refl _), rfl, fun ys hy => by rw [I.tuple_inj hy hq]; exact hx⟩, ⟨⟨u', ?_⟩, hit'.1.at fun o q => (sb.2 it (Ne.symm hne)).trans q, hne, ha1, ha2⟩, fun b hb => ?_⟩
    · have e1 : ((i + 1 : Nat) : Int) = (i : Int) + 1 := by omega
      rw [e1]; exact he'
    · have hb' : b < s.heap.objs.size := by
        have e' : b = e ∨ b = it := by simpa using hb
        rcases e' with z | z
        · rw [z]; exact hel
        · rw [z]; exact hil
      rw [upd_ne (Nat.ne_of_lt hb')]
      exact (hf b hb).1
  done := by
    intro X hP hw hK hc i pins s σ H E I hf st hg
    subst hP hw hK
    obtain ⟨⟨old, he⟩, hit, hne, ha1, ha2⟩ := st
    obtain ⟨xs, hq, hx⟩ := hg
    obtain ⟨its, rv, p, hz⟩ := I.tuple hq
    obtain ⟨f0, f1, f2, f3, f4, f5⟩ := hf it (by simp)
    have hl := rv.length
    have hT : s.TypeIs (.ref e) "enumerate" := ⟨_, he, rfl⟩
    unfold pyNext
    refine wpAny_bind (wpAny_attempt (wpAny_callSpecial?_slot (name := Str.ofString "__next__") hT F.slot_enumerate_next
      (wpAny_call_entry F.slot_enumerate_next hT F.entry_enumerate_next ?_ (F.args_enumerate_next_1 _))))
    show wpAny _ _ (field (.ref e) 2 >>= _) _ _ _
    refine wpAny_bind (wpAny_field he rfl (x := .ref it) rfl ?_)
    refine wpAny_bind (wpAny_nextOf_tuple_end (I.ok.hd hc) hit (show s.heap.IsTuple a its.toArray from p) (by simp; omega) fun h' x he' hx' => ?_)
    obtain ⟨o, ho, hcl⟩ := hx'
    refine wpAny_bind (wpAny_isInstance (T := "StopIteration") (b := true) ⟨o, ho, hcl⟩ isSubtype_stop ?_)
    exact wpAny_pure ⟨rfl, I.turned (t' := s.toks) (fun b o hb q => he' b o hb q) f0 f1 f3 f4 f5⟩
  self := fun A i s Q E st h => let ⟨⟨_, he⟩, _⟩ := st; wpAny_pyIter_enum he h
def iEnumT (K : PySem.W.Frag) (ta : TA) : TI := fun σ H R => ta σ H fun vs H1 => ∃ a xs, vs = [.ref a] ∧ SqT K H1 a xs ∧ R (IteT K a) H1
theorem pi_enumT {X : Cx} {e : Expr} {ta : TA} {p pos tpos : Pos} {elts : List Expr} {kk : Nat} (hg : Gl X "enumerate") (hm : X.mg "enumerate" = none) (ha : PA X [e] ta) (hs : starEach [e] X.env = [(false, eval e X.env)] := by rfl) :
    PI X (.Tuple elts kk tpos) (.Call (.Name "enumerate" p) [e] [] pos) (iEnumT X.K ta) := by
  refine ⟨fun pins s σ H R I h => ?_⟩
  refine Call_ (ld_blt I hg hm boot_enumerate (PyProof.Rows.callWith_type1 (thn (ha.run pos pins s σ H _ I h) fun us s1 ⟨vs, H1, I1, r1, q1⟩ => ?_) hs rfl))
  obtain ⟨a, xs, ex, hq, q⟩ := q1
  subst ex
  cases r1 with
  | cons r rr =>
    cases rr
    cases r
    obtain ⟨its, rv, p', hz⟩ := I1.tuple hq
    have hal : a < s1.heap.objs.size := p'.lt
    refine pl_enum_begins1 (begins_tuple a its.toArray) (show s1.heap.IsTuple a its.toArray from p') fun h' he hit hsz hk => wpAny_pyIter_enum he ?_
    have I2 : Inv X pins σ H1 { s1 with heap := h' } := I1.kept (t' := s1.toks) hk
    refine ⟨s1.heap.objs.size + 1, [s1.heap.objs.size + 1, s1.heap.objs.size], _, _, H1, rfl, I2, turn_enumT a (s1.heap.objs.size + 1) s1.heap.objs.size, ⟨⟨.none, he⟩, ⟨_, hit, rfl, rfl⟩, Nat.succ_ne_self _, Nat.ne_of_lt hal, Nat.ne_of_lt (Nat.lt_succ_of_lt hal)⟩, fun b hb => ?_, q⟩
    have e' : b = s1.heap.objs.size + 1 ∨ b = s1.heap.objs.size := by simpa using hb
    have hle : s1.heap.objs.size ≤ b := by
      rcases e' with z | z
      · rw [z]; exact Nat.le_add_right _ _
      · rw [z]; exact Nat.le_refl _
    exact I1.fpOk hle (I1.hok.fresh hle)
theorem wk_enumT {K : PySem.W.Frag} {Fz : Hp} {a : Addr} {xs : List V} {ds : List PyData} (h : Fz a = some (.tup xs)) (r : RpA Fz xs ds) : Wk Fz (IteT K a) (enumD ds) := fun i H2 e => by
  have h2 : H2 a = some (.tup xs) := e _ _ h
  refine ⟨fun d hd => ?_, fun hl => ⟨xs, SqT.of h2, by rw [r.len, ← enumD_len]; exact hl⟩⟩
  obtain ⟨d', hd', rfl⟩ := enumD_get hd
  obtain ⟨v, hv, rv⟩ := r.get hd'
  refine ⟨⟨xs, v, SqT.of h2, hv⟩, fun x H3 y => ?_⟩
  obtain ⟨T, x', rfl, hT, rfl, y⟩ := y
  have e1 := y xs (SqT.of h2)
  rw [hv] at e1
  cases e1
  exact ⟨Ex.new hT, fun O al n => rp_new2 hT al e n (.int _) rv⟩
theorem ei_enumT {X : Cx} {ρ : List SD} {e : Expr} {ds : List PyData} {p pos : Pos} {elts : List Expr} {kk : Nat} {tpos : Pos} (hg : Gl X "enumerate") (hm : X.mg "enumerate" = none) (ha : Ev X ρ e (.tuple ds)) (hs : starEach [e] X.env = [(false, eval e X.env)] := by rfl) :
    EvI X ρ (.Tuple elts kk tpos) (.Call (.Name "enumerate" p) [e] [] pos) (enumD ds) :=
  pi_imp (pi_enumT hg hm (ea_cons ha ea_nil hs) hs) fun σ H R ⟨F, O0, O1, s, k⟩ => ⟨F, O0, O1, s, fun vs es H1 s1 e1 hd r => by
    subst hd
    obtain ⟨v, rfl, r1⟩ := rpA1 r
    cases r1 with
    | tup h1 h2 h3 => exact ⟨_, _, rfl, SqT.of (msk_some h1).2, k _ _ H1 s1 e1 rfl (by rw [enumD_len]; exact h2) (wk_enumT h1 h3)⟩⟩
/-! short words -/
section
variable {X : Cx} {ρ : List SD} {d : PyData} {x : Str} {pos : Pos}
/-- the name in slot i -/
theorem vr (i : Nat) (hi : X.N[i]? = some x := by rfl) (hd : ρ[i]? = some (.dat d) := by rfl) (hv : Vis X.env.scope x := by first | exact Or.inl rfl | exact Or.inr (Or.inl rfl) | exact Or.inr (Or.inr rfl)) (h1 : (x == ("__debug__" : Str)) = false := by decide)
    (h2 : (x == ("__classdict__" : Str)) = false := by decide) : Ev X ρ (.Name x pos) d := ev_var (i := i) hi hd hv h1 h2
end
section
variable {X : Cx} {ρ : List SD} {a b : Expr} {rest : List Expr} {pos : Pos} {k k1 k2 : Bool}
theorem pw_eq' {e : Expr} (h : PW X e (tT ρ (Eq k1))) (q : k1 = k) : PW X e (tT ρ (Eq k)) := by subst q; exact h
theorem et_nt (h : EvT X ρ a k) (e : (!k) = k1 := by rfl) : EvT X ρ (.UnaryOp .Not a pos) k1 := et_eq' (et_not h) e
/-- a or b .., a test; the first is known -/
theorem et_or (k1 k2 : Bool) (ha : EvT X ρ a k1) (hb : k1 = false → PW X (.BoolOp .Or (b :: rest) pos) (tT ρ (Eq k2))) (e : (k1 || k2) = k := by rfl) : EvT X ρ (.BoolOp .Or (a :: b :: rest) pos) k := et_eq' (PW.pt (ew_or ha hb)) e
theorem et_orT (ha : EvT X ρ a true) : EvT X ρ (.BoolOp .Or (a :: b :: rest) pos) true := PW.pt (ew_or (k1 := true) (k2 := true) ha fun z => nomatch z)
theorem et_orF (ha : EvT X ρ a false) (hb : PW X (.BoolOp .Or (b :: rest) pos) (tT ρ (Eq k))) : EvT X ρ (.BoolOp .Or (a :: b :: rest) pos) k := PW.pt (ew_or (k1 := false) (k2 := k) ha fun _ => hb)
theorem ew_orT (ha : EvT X ρ a true) : PW X (.BoolOp .Or (a :: b :: rest) pos) (tT ρ (Eq true)) := ew_or (k1 := true) (k2 := true) ha fun z => nomatch z
theorem ew_orF (ha : EvT X ρ a false) (hb : PW X (.BoolOp .Or (b :: rest) pos) (tT ρ (Eq k))) : PW X (.BoolOp .Or (a :: b :: rest) pos) (tT ρ (Eq k)) := ew_or (k1 := false) (k2 := k) ha fun _ => hb
theorem et_and (k1 k2 : Bool) (ha : EvT X ρ a k1) (hb : k1 = true → PW X (.BoolOp .And (b :: rest) pos) (tT ρ (Eq k2))) (e : (k1 && k2) = k := by rfl) : EvT X ρ (.BoolOp .And (a :: b :: rest) pos) k := et_eq' (PW.pt (ew_and ha hb)) e
end
/-- the built-in names, none of them bound by the text -/
structure Bt (mg : Str → Option Value) : Prop where
  «isinstance» : mg "isinstance" = none
  «int» : mg "int" = none
  «bool» : mg "bool" = none
  «tuple» : mg "tuple" = none
  «list» : mg "list" = none
  «str» : mg "str" = none
  «len» : mg "len" = none
  «all» : mg "all" = none
  «any» : mg "any" = none
  «zip» : mg "zip" = none
  «sum» : mg "sum" = none
  «range» : mg "range" = none
  «enumerate» : mg "enumerate" = none
  «max» : mg "max" = none
  «min» : mg "min" = none
  «sorted» : mg "sorted" = none
  «set» : mg "set" = none
theorem ei_eq {X : Cx} {ρ : List SD} {tg e : Expr} {ds es : List PyData} (h : EvI X ρ tg e ds) (k : ds = es) : EvI X ρ tg e es := by subst k; exact h
theorem cutD_1 (ds : List PyData) : cutD ds (some 1) none = ds.drop 1 := by
  unfold cutD
  rw [show HT.sIx ds.length 0 (some 1) = min 1 ds.length from HT.sIx_nat ds.length 0 1, HT.sIx_none]
  cases ds with
  | nil => rfl
  | cons x r =>
    rw [show min 1 (x :: r).length = 1 by rw [List.length_cons]; omega]
    show (List.take ((x :: r).length - 1) r) = r
    rw [List.length_cons, Nat.add_sub_cancel]
    exact List.take_length
/-- a for over a list that is known, the slots known at each turn -/
theorem hs_forD {X : Cx} {ρ : List SD} {P : Po} {rest body : List Stmt} {tg iter : Expr} {pos : Pos} {α : Type} {xs : List α} {enc : α → PyData} (ρf : Nat → List SD) (hp : PassesOwn (model X.prog X.w) X.A X.env X.xe) (hc : X.calm = true) (hi : EvI X ρ tg iter (xs.map enc)) (h0 : ρ = ρf 0)
    (hb : ∀ (i : Nat) x, xs[i]? = some x → ∃ ρ2 js, EvG X tg (ρf i) (enc x) ρ2 js ∧ HSs X body ρ2 { nx := (· = ρf (i + 1)), rt := P.rt, bk := fun _ => False, ct := (· = ρf (i + 1)) })
    (hd : HSs X rest (ρf xs.length) P) (hs : ∀ x, foldedSetIterable iter X.env x = pure x := by intro _; rfl) : HSs X (.For tg iter body [] pos :: rest) ρ P := by
  refine hs_for (E := Eq (xs.map enc)) (fun _ i r => r = ρf i) (fun _ => False) hp hc hi (fun _ _ => h0) (fun ds i d ρ1 hE hd' hiv => ?_) (fun ds ρ1 hE hiv => ?_) (fun _ z => z.elim) hs
  · subst hE; subst hiv
    rw [List.getElem?_map] at hd'
    cases q : xs[i]? with
    | none => rw [q] at hd'; cases hd'
    | some x =>
      rw [q] at hd'
      have e : enc x = d := Option.some.inj hd'
      subst e
      exact hb i x q
  · subst hE; subst hiv
    rw [List.length_map]
    exact hd
theorem enumD_map {α : Type} (e : α → PyData) (xs : List α) : enumD (xs.map e) = xs.zipIdx.map fun x => .tuple [.int (x.2 : Nat), e x.1] := by
  unfold enumD
  rw [List.zipIdx_map, List.map_map]
  rfl
theorem take_succ {α : Type} {l : List α} {i : Nat} {x : α} (h : l[i]? = some x) : l.take (i + 1) = l.take i ++ [x] := by
  rw [List.take_add_one, h]; rfl
end PL

namespace Mus
open PySem PySem.Spec PyProof.Rows L2 PL
/-! ## shapes, equality of data that are told by plain things -/
def Shp (n : Nat) (d : PyData) : Prop := d.canLay0 = true ∧ d.depth ≤ n
theorem Shp.ok {n : Nat} {d : PyData} (h : Shp n d) (hn : n ≤ 64 := by decide) : SeqAt.shaped d = true := by
  unfold SeqAt.shaped
  rw [h.1, Bool.true_and, decide_eq_true_iff]
  exact Nat.le_trans h.2 hn
theorem Shp.mono {n m : Nat} {d : PyData} (h : Shp n d) (l : n ≤ m) : Shp m d := ⟨h.1, Nat.le_trans h.2 l⟩
theorem shp_int (i : Int) : Shp 0 (.int i) := ⟨by simp [PyData.canLay0], by simp [PyData.depth]⟩
theorem shp_bool (i : Bool) : Shp 0 (.bool i) := ⟨by simp [PyData.canLay0], by simp [PyData.depth]⟩
theorem shp_none : Shp 0 .none := ⟨by simp [PyData.canLay0], by simp [PyData.depth]⟩
theorem shp_str (x : Str) (h : PyData.strOk x = true) : Shp 0 (.str x) := ⟨by simpa [PyData.canLay0] using h, by simp [PyData.depth]⟩
theorem shpAll_iff {n : Nat} : ∀ ds : List PyData, (∀ d ∈ ds, Shp n d) → PyData.canLayAll0 ds = true ∧ PyData.depthAll ds ≤ n
  | [], _ => ⟨by simp [PyData.canLayAll0], by simp [PyData.depthAll]⟩
  | d :: ds, h => by
    obtain ⟨h1, h2⟩ := shpAll_iff ds fun x hx => h x (List.mem_cons_of_mem _ hx)
    obtain ⟨g1, g2⟩ := h d List.mem_cons_self
    refine ⟨by simp [PyData.canLayAll0, g1, h1], ?_⟩
    simp only [PyData.depthAll]
    omega
theorem shp_tuple {n : Nat} {ds : List PyData} (h : ∀ d ∈ ds, Shp n d) : Shp (n + 1) (.tuple ds) := by
  obtain ⟨h1, h2⟩ := shpAll_iff ds h
  exact ⟨by simpa [PyData.canLay0] using h1, by simp only [PyData.depth]; omega⟩
theorem shp_list {n : Nat} {ds : List PyData} (h : ∀ d ∈ ds, Shp n d) : Shp (n + 1) (.list ds) := by
  obtain ⟨h1, h2⟩ := shpAll_iff ds h
  exact ⟨by simpa [PyData.canLay0] using h1, by simp only [PyData.depth]; omega⟩
/-- an encoding: shaped, and == tells apart what differs -/
structure En {α : Type} [DecidableEq α] (e : α → PyData) (n : Nat) : Prop where
  shp : ∀ a, Shp n (e a)
  eq : ∀ a b, PyData.eqv (e a) (e b) = decide (a = b)
theorem En.ok {α : Type} [DecidableEq α] {e : α → PyData} {n : Nat} (h : En e n) (a : α) (hn : n ≤ 64 := by decide) : SeqAt.shaped (e a) = true := (h.shp a).ok hn
theorem en_int : En PyData.int 0 := ⟨shp_int, fun a b => by simp only [PyData.eqv]; rw [Bool.eq_iff_iff]; simp⟩
theorem en_bool : En PyData.bool 0 := ⟨shp_bool, fun a b => by simp only [PyData.eqv]; rw [Bool.eq_iff_iff]; simp⟩
theorem eqvAll_map {α : Type} [DecidableEq α] {e : α → PyData} (h : ∀ a b, PyData.eqv (e a) (e b) = decide (a = b)) : ∀ xs ys : List α, PyData.eqvAll (xs.map e) (ys.map e) = decide (xs = ys)
  | [], [] => by simp [PyData.eqvAll]
  | [], _ :: _ => by simp [PyData.eqvAll]
  | _ :: _, [] => by simp [PyData.eqvAll]
  | x :: xs, y :: ys => by
    have ih := eqvAll_map h xs ys
    simp only [List.map_cons, PyData.eqvAll, h x y, ih]
    rw [Bool.eq_iff_iff]
    simp
theorem en_tup {α : Type} [DecidableEq α] {e : α → PyData} {n : Nat} (h : En e n) : En (fun xs : List α => PyData.tuple (xs.map e)) (n + 1) :=
  ⟨fun xs => shp_tuple fun d hd => by obtain ⟨a, _, rfl⟩ := List.mem_map.mp hd; exact h.shp a, fun xs ys => by simp only [PyData.eqv]; exact eqvAll_map h.eq xs ys⟩
theorem en_lst {α : Type} [DecidableEq α] {e : α → PyData} {n : Nat} (h : En e n) : En (fun xs : List α => PyData.list (xs.map e)) (n + 1) :=
  ⟨fun xs => shp_list fun d hd => by obtain ⟨a, _, rfl⟩ := List.mem_map.mp hd; exact h.shp a, fun xs ys => by simp only [PyData.eqv]; exact eqvAll_map h.eq xs ys⟩
/-- membership -/
theorem inD_map {α : Type} [DecidableEq α] {e : α → PyData} {n : Nat} (h : En e n) (a : α) (xs : List α) [Decidable (a ∈ xs)] : inD (e a) (xs.map e) = decide (a ∈ xs) := by
  unfold inD
  rw [List.any_map, Bool.eq_iff_iff, List.any_eq_true, decide_eq_true_iff]
  constructor
  · rintro ⟨x, hx, hq⟩
    rw [Function.comp, h.eq] at hq
    rw [← of_decide_eq_true hq]; exact hx
  · intro ha
    exact ⟨a, ha, by rw [Function.comp, h.eq]; exact decide_eq_true rfl⟩
theorem eqv_lnil (ds : List PyData) : PyData.eqv (.list ds) (.list []) = ds.isEmpty := by
  cases ds <;> simp [PyData.eqv, PyData.eqvAll]
theorem eqv_tnil (ds : List PyData) : PyData.eqv (.tuple ds) (.tuple []) = ds.isEmpty := by
  cases ds <;> simp [PyData.eqv, PyData.eqvAll]

/-! ## the program's data -/
structure Wish where
  house : Int
  item : Int
  first : Int
  last : Int
  deriving DecidableEq
structure Obj where
  home : Int
  value : Int
  rest : Int
  light : Int
  deriving DecidableEq
structure Plan where
  houses : List Int
  objects : List Obj
  wishes : List Wish
  deriving DecidableEq
abbrev eW (w : Wish) : PyData := .tuple [.int w.house, .int w.item, .int w.first, .int w.last]
abbrev eO (o : Obj) : PyData := .tuple [.int o.home, .int o.value, .int o.rest, .int o.light]
abbrev eT (xs : List Int) : PyData := .tuple (xs.map PyData.int)
abbrev eP (p : Plan) : PyData := .tuple [eT p.houses, .tuple (p.objects.map eO), .tuple (p.wishes.map eW)]
theorem eqI (a b : Int) : PyData.eqv (.int a) (.int b) = decide (a = b) := en_int.eq a b
theorem en_wish : En eW 1 := ⟨fun w => shp_tuple (n := 0) fun d hd => by
    simp only [List.mem_cons, List.not_mem_nil, or_false] at hd
    rcases hd with h | h | h | h <;> (rw [h]; exact shp_int _), fun a b => by
    obtain ⟨a1, a2, a3, a4⟩ := a
    obtain ⟨b1, b2, b3, b4⟩ := b
    simp only [PyData.eqv, PyData.eqvAll]
    rw [Bool.eq_iff_iff]
    simp [and_assoc]⟩
theorem en_obj : En eO 1 := ⟨fun w => shp_tuple (n := 0) fun d hd => by
    simp only [List.mem_cons, List.not_mem_nil, or_false] at hd
    rcases hd with h | h | h | h <;> (rw [h]; exact shp_int _), fun a b => by
    obtain ⟨a1, a2, a3, a4⟩ := a
    obtain ⟨b1, b2, b3, b4⟩ := b
    simp only [PyData.eqv, PyData.eqvAll]
    rw [Bool.eq_iff_iff]
    simp [and_assoc]⟩
theorem en_T : En eT 1 := en_tup en_int
theorem en_plan : En eP 3 := ⟨fun p => shp_tuple (n := 2) fun d hd => by
    simp only [List.mem_cons, List.not_mem_nil, or_false] at hd
    rcases hd with h | h | h
    · rw [h]; exact (en_T.shp _).mono (by decide)
    · rw [h]; exact (en_tup en_obj).shp _
    · rw [h]; exact (en_tup en_wish).shp _, fun a b => by
    obtain ⟨a1, a2, a3⟩ := a
    obtain ⟨b1, b2, b3⟩ := b
    have h1 := en_T.eq a1 b1
    have h2 := (en_tup en_obj).eq a2 b2
    have h3 := (en_tup en_wish).eq a3 b3
    simp only [PyData.eqv] at h1 h2 h3
    simp only [PyData.eqv, PyData.eqvAll, h1, h2, h3]
    rw [Bool.eq_iff_iff]
    simp⟩
/-! bounds of 3.1 -/
structure Obj.Ok (n : Nat) (o : Obj) : Prop where
  h0 : 0 ≤ o.home
  h1 : o.home < n
  v0 : 1 ≤ o.value
  v1 : o.value ≤ 20
  r0 : 0 ≤ o.rest
  r1 : o.rest ≤ 9
  l0 : 1 ≤ o.light
  l1 : o.light ≤ 40
def Plan.obj (p : Plan) (i : Int) : Obj := p.objects.getD i.toNat ⟨0, 0, 0, 0⟩
def Plan.wish (p : Plan) (i : Int) : Wish := p.wishes.getD i.toNat ⟨0, 0, 0, 0⟩
structure Wish.Ok (p : Plan) (w : Wish) : Prop where
  h0 : 0 ≤ w.house
  h1 : w.house < p.houses.length
  i0 : 0 ≤ w.item
  i1 : w.item < p.objects.length
  ne : (p.obj w.item).home ≠ w.house
  f0 : 0 ≤ w.first
  fl : w.first ≤ w.last
  l1 : w.last ≤ 60
structure Plan.Ok (p : Plan) : Prop where
  h1 : 1 ≤ p.houses.length
  h4 : p.houses.length ≤ 4
  hs : ∀ x ∈ p.houses, 0 ≤ x ∧ x ≤ 40
  o1 : 1 ≤ p.objects.length
  o4 : p.objects.length ≤ 4
  os : ∀ o ∈ p.objects, o.Ok p.houses.length
  w8 : p.wishes.length ≤ 8
  ws : ∀ w ∈ p.wishes, w.Ok p
/-- some wishes of a plan: ascending numbers -/
def asc : List Int → Bool
  | a :: b :: r => decide (a < b) && asc (b :: r)
  | _ => true
structure SomeOk (p : Plan) (s : List Int) : Prop where
  lo : ∀ x ∈ s, 0 ≤ x
  hi : ∀ x ∈ s, x < p.wishes.length
  as : asc s = true
/-! at a place -/
theorem at_nat {α : Type} {e : α → PyData} {xs : List α} {i : Int} (dflt : α) (h0 : 0 ≤ i) (h1 : i < xs.length) : atI (xs.map e) i = some (e (xs.getD i.toNat dflt)) := by
  obtain ⟨j, rfl⟩ : ∃ j : Nat, i = j := ⟨i.toNat, by omega⟩
  have hj : j < xs.length := by omega
  have e1 : ((j : Int)).toNat = j := by simp
  refine atI_nat ?_
  rw [List.getElem?_map, List.getElem?_eq_getElem hj, e1]
  simp [List.getD, List.getElem?_eq_getElem hj]
theorem Plan.at_obj {p : Plan} {i : Int} (h0 : 0 ≤ i) (h1 : i < p.objects.length) : atI (p.objects.map eO) i = some (eO (p.obj i)) := at_nat _ h0 h1
theorem Plan.at_wish {p : Plan} {i : Int} (h0 : 0 ≤ i) (h1 : i < p.wishes.length) : atI (p.wishes.map eW) i = some (eW (p.wish i)) := at_nat _ h0 h1
theorem getD_mem {α : Type} {xs : List α} {i : Int} (d : α) (h0 : 0 ≤ i) (h1 : i < xs.length) : xs.getD i.toNat d ∈ xs := by
  have hj : i.toNat < xs.length := by omega
  rw [List.getD, List.getElem?_eq_getElem hj]
  exact List.getElem_mem hj
theorem Plan.obj_mem {p : Plan} {i : Int} (h0 : 0 ≤ i) (h1 : i < p.objects.length) : p.obj i ∈ p.objects := getD_mem _ h0 h1
theorem Plan.wish_mem {p : Plan} {i : Int} (h0 : 0 ≤ i) (h1 : i < p.wishes.length) : p.wish i ∈ p.wishes := getD_mem _ h0 h1
end Mus

namespace Mus
open PySem PySem.Spec PyProof.Rows L2 PL
/-! ## mirrors: plans.py -/
def inRange (d : PyData) (lo hi : Int) : Bool := match d with
  | .int i => decide (lo ≤ i) && decide (i ≤ hi)
  | _ => false
def isBetween (d : PyData) (lo hi : Int) : Bool := PL.isInt d && (!isBool d && inRange d lo hi)
theorem isBetween_int (i lo hi : Int) : isBetween (.int i) lo hi = (decide (lo ≤ i) && decide (i ≤ hi)) := rfl
theorem isBetween_of {d : PyData} {lo hi : Int} (h : isBetween d lo hi = true) : ∃ i, d = .int i ∧ lo ≤ i ∧ i ≤ hi := by
  cases d with
  | int i =>
    rw [isBetween_int, Bool.and_eq_true, decide_eq_true_iff, decide_eq_true_iff] at h
    exact ⟨i, rfl, h.1, h.2⟩
  | _ => simp [isBetween, PL.isInt, isBool] at h
def isObjD (houses : Int) (d : PyData) : Bool := match d with
  | .tuple [a, b, c, e] => isBetween a 0 (houses - 1) && (isBetween b 1 20 && (isBetween c 0 9 && isBetween e 1 40))
  | _ => false
def homeD : PyData → PyData
  | .tuple (a :: _) => a
  | _ => .none
def toI : PyData → Int
  | .int i => i
  | _ => 0
/-- objects: a list of things that are objects -/
def isWishD (houses : Int) (objects : List PyData) (d : PyData) : Bool := match d with
  | .tuple [a, b, c, e] => isBetween a 0 (houses - 1) && (isBetween b 0 ((objects.length : Int) - 1) && (!PyData.eqv (homeD (objects.getD (toI b).toNat .none)) a && (isBetween e 0 60 && isBetween c 0 (toI e))))
  | _ => false
def isPlanD (d : PyData) : Bool := match d with
  | .tuple [.tuple hs, .tuple os, .tuple ws] => (decide (1 ≤ hs.length) && decide (hs.length ≤ 4)) && ((hs.all fun x => isBetween x 0 40) && ((decide (1 ≤ os.length) && decide (os.length ≤ 4)) && ((os.all fun x => isObjD hs.length x) && (decide (ws.length ≤ 8) && ws.all fun x => isWishD hs.length os x))))
  | _ => false
def areSome (p : Plan) (d : PyData) : Bool := match d with
  | .tuple ds => (ds.all fun x => isBetween x 0 ((p.wishes.length : Int) - 1)) && asc (ds.map toI)
  | _ => false
def doRest (a b : Wish) (r : Int) : Bool := decide (b.last + r < a.first) || decide (a.last + r < b.first)
def weeksOf (ws : List Wish) (item : Int) : Int := ((ws.filter fun w => decide (w.item = item)).map fun w => w.last - w.first + 1).sum
def thereIn (ws : List Wish) (h k : Int) : List Wish := ws.filter fun w => decide (w.house = h) && (decide (w.first ≤ k) && decide (k ≤ w.last))
def valueAt (p : Plan) (ws : List Wish) (h k : Int) : Int := ((thereIn ws h k).map fun w => (p.obj w.item).value).sum
def named (p : Plan) (s : List Int) : List Wish := s.map p.wish
def InRng (p : Plan) (s : List Int) : Prop := ∀ x ∈ s, 0 ≤ x ∧ x < p.wishes.length
/-- wishes, as tuples, that may be judged -/
structure WsOk (p : Plan) (ws : List Wish) : Prop where
  it : ∀ w ∈ ws, 0 ≤ w.item ∧ w.item < p.objects.length
  len : ws.length ≤ 16
def tiredB (p : Plan) (a b : Wish) : Bool := decide (a.item = b.item) && !doRest a b (p.obj a.item).rest
def wAt (ws : List Wish) (i : Int) : Wish := ws.getD i.toNat ⟨0, 0, 0, 0⟩
def tiredRow (p : Plan) (ws : List Wish) (a : Wish) (i : Int) : List Int := (rangeD (i + 1) ((ws.length : Int) - (i + 1)).toNat).filter fun t => tiredB p a (wAt ws t)
def tired (p : Plan) (ws : List Wish) : List (Int × Int) := ws.zipIdx.flatMap fun x => (tiredRow p ws x.1 x.2).map fun t => ((x.2 : Int), t)
def bleached (p : Plan) (ws : List Wish) : List Int := (rangeD 0 p.objects.length).filter fun i => decide ((p.obj i).light < weeksOf ws i)
def crowdRow (p : Plan) (ws : List Wish) (limit h : Int) : List Int := (rangeD 0 61).filter fun k => decide (limit < valueAt p ws h k)
def crowded (p : Plan) (ws : List Wish) : List (Int × Int) := p.houses.zipIdx.flatMap fun x => (crowdRow p ws x.1 x.2).map fun k => ((x.2 : Int), k)
def houseBad (p : Plan) (ws : List Wish) (limit h : Int) : Bool := ((ws.filter fun w => decide (w.house = h)).map fun w => w.first).any fun k => decide (limit < valueAt p ws h k)
def areGood (p : Plan) (ws : List Wish) : Bool := !(!(tired p ws).isEmpty || !(bleached p ws).isEmpty) && p.houses.zipIdx.all fun x => !houseBad p ws x.1 x.2
inductive Reason where
  | light (i : Int)
  | rest (a b : Int)
  | value (h k : Int)
  deriving DecidableEq
def eR : Reason → PyData
  | .light i => .tuple [.str "light", .int i]
  | .rest a b => .tuple [.str "rest", .int a, .int b]
  | .value h k => .tuple [.str "value", .int h, .int k]
def atZ (s : List Int) (i : Int) : Int := s.getD i.toNat 0
def reasonsOf (p : Plan) (s : List Int) : List Reason := (bleached p (named p s)).map Reason.light ++ (tired p (named p s)).map (fun x => .rest (atZ s x.1) (atZ s x.2)) ++ (crowded p (named p s)).map fun x => .value x.1 x.2
/-! what is known of plans that are plans -/
theorem isObj_ok {n : Nat} {o : Obj} (h : o.Ok n) : isObjD n (eO o) = true := by
  obtain ⟨a, b, c, d, e, f, g, i⟩ := h
  simp only [isObjD, isBetween_int, Bool.and_eq_true, decide_eq_true_eq]
  omega
theorem isWish_ok {p : Plan} {w : Wish} (h : w.Ok p) : isWishD p.houses.length (p.objects.map eO) (eW w) = true := by
  obtain ⟨a, b, c, d, e, f, g, i⟩ := h
  have hj : w.item.toNat < p.objects.length := by omega
  have e1 : (p.objects.map eO).getD w.item.toNat .none = eO (p.obj w.item) := by
    unfold Plan.obj
    simp [List.getD, List.getElem?_map, List.getElem?_eq_getElem hj]
  simp only [isWishD, isBetween_int, toI, e1, homeD, eqI, List.length_map, Bool.and_eq_true, decide_eq_true_eq, Bool.not_eq_true', decide_eq_false_iff_not]
  exact ⟨by omega, by omega, e, by omega, by omega⟩
theorem isPlan_ok {p : Plan} (h : p.Ok) : isPlanD (eP p) = true := by
  obtain ⟨a, b, c, d, e, f, g, i⟩ := h
  simp only [isPlanD, List.length_map, List.all_map, Bool.and_eq_true, decide_eq_true_eq]
  refine ⟨⟨a, b⟩, ?_, ⟨d, e⟩, ?_, g, ?_⟩
  · refine List.all_eq_true.mpr fun x hx => ?_
    rw [Function.comp, isBetween_int, Bool.and_eq_true, decide_eq_true_iff, decide_eq_true_iff]
    exact c x hx
  · exact List.all_eq_true.mpr fun x hx => isObj_ok (f x hx)
  · exact List.all_eq_true.mpr fun x hx => isWish_ok (i x hx)
theorem map_toI (s : List Int) : (s.map PyData.int).map toI = s := by
  rw [List.map_map]
  exact (List.map_congr_left fun x _ => rfl).trans (List.map_id s)
theorem areSome_ok {p : Plan} {s : List Int} (h : SomeOk p s) : areSome p (eT s) = true := by
  simp only [areSome, map_toI, Bool.and_eq_true]
  refine ⟨?_, h.as⟩
  rw [List.all_map]
  refine List.all_eq_true.mpr fun x hx => ?_
  rw [Function.comp, isBetween_int, Bool.and_eq_true, decide_eq_true_iff, decide_eq_true_iff]
  exact ⟨h.lo x hx, by have := h.hi x hx; omega⟩
theorem SomeOk.rng {p : Plan} {s : List Int} (h : SomeOk p s) : InRng p s := fun x hx => ⟨h.lo x hx, h.hi x hx⟩
theorem named_ok {p : Plan} {s : List Int} (hp : p.Ok) (h : InRng p s) (hl : s.length ≤ 16) : WsOk p (named p s) := by
  refine ⟨fun w hw => ?_, by unfold named; rw [List.length_map]; exact hl⟩
  obtain ⟨x, hx, rfl⟩ := List.mem_map.mp hw
  have h1 := hp.ws _ (p.wish_mem (h x hx).1 (h x hx).2)
  exact ⟨h1.i0, h1.i1⟩
theorem asc_tail {a : Int} {l : List Int} (h : asc (a :: l) = true) : asc l = true := by
  cases l with
  | nil => rfl
  | cons b r =>
    simp only [asc, Bool.and_eq_true] at h
    exact h.2
theorem asc_lt {a : Int} : ∀ {l : List Int}, asc (a :: l) = true → ∀ x ∈ l, a < x
  | [], _, x, hx => by cases hx
  | b :: r, h, x, hx => by
    simp only [asc, Bool.and_eq_true, decide_eq_true_eq] at h
    rcases List.mem_cons.mp hx with e | e
    · rw [e]; exact h.1
    · have := asc_lt h.2 x e
      omega
theorem asc_len : ∀ (l : List Int) (lo : Int) (n : Nat), asc l = true → (∀ x ∈ l, lo ≤ x ∧ x < lo + n) → l.length ≤ n
  | [], _, _, _, _ => Nat.zero_le _
  | a :: l, lo, n, h, hb => by
    have h1 := hb a List.mem_cons_self
    cases n with
    | zero => omega
    | succ n =>
      have h2 := asc_len l (lo + 1) n (asc_tail h) fun x hx => ⟨by have := asc_lt h x hx; omega, by have := (hb x (List.mem_cons_of_mem _ hx)).2; omega⟩
      rw [List.length_cons]; omega
theorem SomeOk.len {p : Plan} {s : List Int} (h : SomeOk p s) : s.length ≤ p.wishes.length := asc_len s 0 _ h.as fun x hx => ⟨h.lo x hx, by have := h.hi x hx; omega⟩
/-! sizes -/
theorem zipIdx_flatMap_len {α β : Type} (c : Nat) (f : α × Nat → List β) : ∀ (l : List α) (k : Nat), (∀ x, (f x).length ≤ c) → ((l.zipIdx k).flatMap f).length ≤ l.length * c
  | [], k, h => by simp
  | a :: l, k, h => by
    have ih := zipIdx_flatMap_len c f l (k + 1) h
    have h1 := h (a, k)
    rw [List.zipIdx_cons, List.flatMap_cons, List.length_append, List.length_cons, Nat.succ_mul]
    omega
end Mus

namespace Mus
open PySem PySem.Spec PyProof.Rows L2 PL
/-! ## contracts: plans.py -/
abbrev eLW (ws : List Wish) : PyData := .list (ws.map eW)
abbrev eII (x : Int × Int) : PyData := .tuple [.int x.1, .int x.2]
def eOpt {α : Type} (e : α → PyData) : Option α → PyData
  | none => .none
  | some a => e a
abbrev c_is_between : Ct := ⟨PyData × Int × Int, fun a => [a.1, .int a.2.1, .int a.2.2], fun _ => True, fun a => Eq (.bool (isBetween a.1 a.2.1 a.2.2))⟩
abbrev c_is_ascending : Ct := ⟨List Int, fun a => [eT a], fun _ => True, fun a => Eq (.bool (asc a))⟩
abbrev c_is_object : Ct := ⟨Int × PyData, fun a => [.int a.1, a.2], fun _ => True, fun a => Eq (.bool (isObjD a.1 a.2))⟩
abbrev c_is_wish : Ct := ⟨Int × List PyData × PyData, fun a => [.int a.1, .tuple a.2.1, a.2.2], fun a => ∀ o ∈ a.2.1, isObjD a.1 o = true, fun a => Eq (.bool (isWishD a.1 a.2.1 a.2.2))⟩
abbrev c_is_plan : Ct := ⟨PyData, fun a => [a], fun _ => True, fun a => Eq (.bool (isPlanD a))⟩
abbrev c_check_plan : Ct := ⟨Plan, fun a => [eP a], fun a => a.Ok, fun _ => Eq .none⟩
abbrev c_are_some : Ct := ⟨Plan × PyData, fun a => [eP a.1, a.2], fun _ => True, fun a => Eq (.bool (areSome a.1 a.2))⟩
abbrev c_check_some : Ct := ⟨Plan × List Int, fun a => [eP a.1, eT a.2], fun a => a.1.Ok ∧ SomeOk a.1 a.2, fun _ => Eq .none⟩
abbrev c_do_rest : Ct := ⟨Wish × Wish × Int, fun a => [eW a.1, eW a.2.1, .int a.2.2], fun _ => True, fun a => Eq (.bool (doRest a.1 a.2.1 a.2.2))⟩
abbrev c_weeks_of : Ct := ⟨List Wish × Int, fun a => [eLW a.1, .int a.2], fun _ => True, fun a => Eq (.int (weeksOf a.1 a.2))⟩
abbrev c_value_at : Ct := ⟨Plan × List Wish × Int × Int, fun a => [eP a.1, eLW a.2.1, .int a.2.2.1, .int a.2.2.2], fun a => WsOk a.1 a.2.1, fun a => Eq (.int (valueAt a.1 a.2.1 a.2.2.1 a.2.2.2))⟩
abbrev c_named : Ct := ⟨Plan × List Int, fun a => [eP a.1, eT a.2], fun a => InRng a.1 a.2, fun a => Eq (eLW (named a.1 a.2))⟩
abbrev c_tired : Ct := ⟨Plan × List Wish, fun a => [eP a.1, eLW a.2], fun a => WsOk a.1 a.2, fun a => Eq (.list ((tired a.1 a.2).map eII))⟩
abbrev c_bleached : Ct := ⟨Plan × List Wish, fun a => [eP a.1, eLW a.2], fun a => a.1.Ok, fun a => Eq (.list ((bleached a.1 a.2).map PyData.int))⟩
abbrev c_crowded : Ct := ⟨Plan × List Wish, fun a => [eP a.1, eLW a.2], fun a => a.1.Ok ∧ WsOk a.1 a.2, fun a => Eq (.list ((crowded a.1 a.2).map eII))⟩
abbrev c_are_good : Ct := ⟨Plan × List Wish, fun a => [eP a.1, eLW a.2], fun a => a.1.Ok ∧ WsOk a.1 a.2, fun a => Eq (.bool (areGood a.1 a.2))⟩
abbrev c_is_good : Ct := ⟨Plan × List Int, fun a => [eP a.1, eT a.2], fun a => a.1.Ok ∧ SomeOk a.1 a.2, fun a => Eq (.bool (areGood a.1 (named a.1 a.2)))⟩
abbrev c_reasons_of : Ct := ⟨Plan × List Int, fun a => [eP a.1, eT a.2], fun a => a.1.Ok ∧ SomeOk a.1 a.2, fun a => Eq (.list ((reasonsOf a.1 a.2).map eR))⟩
abbrev c_reasons : Ct := ⟨Plan × List Int, fun a => [eP a.1, eT a.2], fun a => a.1.Ok ∧ SomeOk a.1 a.2, fun a => Eq (.tuple ((reasonsOf a.1 a.2).map eR))⟩
abbrev c_first_reason : Ct := ⟨Plan × List Int, fun a => [eP a.1, eT a.2], fun a => a.1.Ok ∧ SomeOk a.1 a.2, fun a => Eq (eOpt eR (reasonsOf a.1 a.2).head?)⟩
def G_LAST (mg : Str → Option Value) : Prop := ∃ t, mg "LAST" = some (.int 60 t)
theorem isTup_of {d : PyData} (h : isTup d = true) : ∃ ds, d = .tuple ds := by
  cases d with
  | tuple ds => exact ⟨ds, rfl⟩
  | _ => cases h
theorem zip_int (ns : List Int) : zipD (ns.map PyData.int) (cutD (ns.map PyData.int) (some 1) none) = (ns.zip (ns.drop 1)).map eII := by
  rw [cutD_1, ← List.map_drop]
  unfold zipD
  rw [List.zipWith_map, List.zip, List.map_zipWith]
theorem asc_zip : ∀ ns : List Int, ((ns.zip (ns.drop 1)).map fun x => decide (x.1 < x.2)).all id = asc ns
  | [] => rfl
  | [_] => rfl
  | a :: b :: r => by
    have ih := asc_zip (b :: r)
    simp only [List.drop_succ_cons, List.drop_zero] at ih ⊢
    rw [List.zip_cons_cons, List.map_cons, List.all_cons, ih]
    rfl
theorem len3 {α : Type} {l : List α} (h : l.length = 3) : ∃ a b c, l = [a, b, c] := by
  match l, h with
  | [a, b, c], _ => exact ⟨a, b, c, rfl⟩
theorem len4 {α : Type} {l : List α} (h : l.length = 4) : ∃ a b c d, l = [a, b, c, d] := by
  match l, h with
  | [a, b, c, d], _ => exact ⟨a, b, c, d, rfl⟩
theorem all_toI {lo hi : Int} : ∀ {ds : List PyData}, (ds.all fun x => isBetween x lo hi) = true → ds = (ds.map toI).map PyData.int
  | [], _ => rfl
  | d :: ds, h => by
    rw [List.all_cons, Bool.and_eq_true] at h
    obtain ⟨i, rfl, _⟩ := isBetween_of h.1
    rw [List.map_cons, List.map_cons, ← all_toI h.2]
    rfl
theorem filter_step {α β : Type} {l : List α} {i : Nat} {x : α} {g : α → Bool} {f : α → β} (h : l[i]? = some x) : ((l.take (i + 1)).filter g).map f = ((l.take i).filter g).map f ++ (if g x = true then [f x] else []) := by
  rw [take_succ h, List.filter_append, List.map_append]
  congr 1
  by_cases c : g x = true
  · rw [if_pos c, List.filter_cons_of_pos c]; rfl
  · rw [if_neg c, List.filter_cons_of_neg c]; rfl
theorem flatMap_step {α β : Type} {l : List α} {i : Nat} {x : α} {f : α → List β} (h : l[i]? = some x) : (l.take (i + 1)).flatMap f = (l.take i).flatMap f ++ f x := by
  rw [take_succ h, List.flatMap_append]
  simp
theorem tiredRow_len (p : Plan) (ws : List Wish) (a : Wish) (i : Int) (h : 0 ≤ i) : (tiredRow p ws a i).length ≤ ws.length := by
  unfold tiredRow
  refine Nat.le_trans (List.length_filter_le ..) ?_
  rw [rangeD_len]
  omega
theorem crowdRow_len (p : Plan) (ws : List Wish) (a i : Int) : (crowdRow p ws a i).length ≤ 61 := by
  unfold crowdRow
  refine Nat.le_trans (List.length_filter_le ..) ?_
  rw [rangeD_len]
  exact Nat.le_refl _
theorem tired_pre_len (p : Plan) (ws : List Wish) (hl : ws.length ≤ 16) (i : Nat) : ((ws.zipIdx.take i).flatMap fun x => (tiredRow p ws x.1 x.2).map fun t => ((x.2 : Int), t)).length ≤ 256 := by
  have h : ∀ l : List (Wish × Nat), (l.flatMap fun x => (tiredRow p ws x.1 x.2).map fun t => ((x.2 : Int), t)).length ≤ l.length * 16 := by
    intro l
    induction l with
    | nil => simp
    | cons a l ih =>
      rw [List.flatMap_cons, List.length_append, List.length_map, List.length_cons, Nat.succ_mul]
      have := tiredRow_len p ws a.1 a.2 (by omega)
      omega
  refine Nat.le_trans (h _) ?_
  have h2 : (ws.zipIdx.take i).length ≤ 16 := by
    rw [List.length_take, List.length_zipIdx]; omega
  omega
theorem crowded_pre_len (p : Plan) (ws : List Wish) (hl : p.houses.length ≤ 4) (i : Nat) : ((p.houses.zipIdx.take i).flatMap fun x => (crowdRow p ws x.1 x.2).map fun k => ((x.2 : Int), k)).length ≤ 244 := by
  have h : ∀ l : List (Int × Nat), (l.flatMap fun x => (crowdRow p ws x.1 x.2).map fun k => ((x.2 : Int), k)).length ≤ l.length * 61 := by
    intro l
    induction l with
    | nil => simp
    | cons a l ih =>
      rw [List.flatMap_cons, List.length_append, List.length_map, List.length_cons, Nat.succ_mul]
      have := crowdRow_len p ws a.1 a.2
      omega
  refine Nat.le_trans (h _) ?_
  have h2 : (p.houses.zipIdx.take i).length ≤ 4 := by
    rw [List.length_take, List.length_zipIdx]; omega
  omega
theorem zipIdx_get {α : Type} {l : List α} {i : Nat} {x : α × Nat} (h : l.zipIdx[i]? = some x) : l[i]? = some x.1 ∧ x.2 = i := by
  rw [List.getElem?_zipIdx] at h
  cases q : l[i]? with
  | none => rw [q] at h; cases h
  | some y =>
    rw [q] at h
    have e := Option.some.inj h
    rw [← e]
    exact ⟨rfl, by simp⟩
theorem rangeD_mem {lo : Int} {n : Nat} {t : Int} : t ∈ rangeD lo n ↔ lo ≤ t ∧ t < lo + n := by
  unfold rangeD
  rw [List.mem_map]
  constructor
  · rintro ⟨k, hk, rfl⟩
    rw [List.mem_range] at hk
    omega
  · rintro ⟨h1, h2⟩
    exact ⟨(t - lo).toNat, by rw [List.mem_range]; omega, by omega⟩
theorem wAt_nat {ws : List Wish} {i : Nat} {w : Wish} (h : ws[i]? = some w) : wAt ws (i : Int) = w := by
  have h2 : ((i : Int)).toNat = i := by simp
  unfold wAt
  rw [h2, List.getD, h]; rfl
theorem map_get {α β : Type} {f : α → β} {l : List α} {i : Nat} {d : β} (h : (l.map f)[i]? = some d) : ∃ x, l[i]? = some x ∧ f x = d := by
  rw [List.getElem?_map] at h
  cases q : l[i]? with
  | none => rw [q] at h; cases h
  | some x => rw [q] at h; exact ⟨x, rfl, Option.some.inj h⟩
theorem en_II : En eII 1 := ⟨fun w => shp_tuple (n := 0) fun d hd => by
    simp only [List.mem_cons, List.not_mem_nil, or_false] at hd
    rcases hd with h | h <;> (rw [h]; exact shp_int _), fun a b => by
    obtain ⟨a1, a2⟩ := a
    obtain ⟨b1, b2⟩ := b
    simp only [PyData.eqv, PyData.eqvAll]
    rw [Bool.eq_iff_iff]
    simp⟩
theorem shp_light : Shp 0 (.str "light") := shp_str _ (by decide +kernel)
theorem shp_rest : Shp 0 (.str "rest") := shp_str _ (by decide +kernel)
theorem shp_value : Shp 0 (.str "value") := shp_str _ (by decide +kernel)
theorem sne1 : (("light" : Str) == "rest") = false := by decide +kernel
theorem sne2 : (("light" : Str) == "value") = false := by decide +kernel
theorem sne3 : (("rest" : Str) == "value") = false := by decide +kernel
theorem sne4 : (("rest" : Str) == "light") = false := by decide +kernel
theorem sne5 : (("value" : Str) == "light") = false := by decide +kernel
theorem sne6 : (("value" : Str) == "rest") = false := by decide +kernel
theorem shp_R (r : Reason) : Shp 1 (eR r) := by
  have l2 : ∀ {x y : PyData}, Shp 0 x → Shp 0 y → Shp 1 (.tuple [x, y]) := fun {x y} h1 h2 => shp_tuple (n := 0) fun d hd => by
    simp only [List.mem_cons, List.not_mem_nil, or_false] at hd
    rcases hd with h | h
    · rw [h]; exact h1
    · rw [h]; exact h2
  have l3 : ∀ {x y z : PyData}, Shp 0 x → Shp 0 y → Shp 0 z → Shp 1 (.tuple [x, y, z]) := fun {x y z} h1 h2 h3 => shp_tuple (n := 0) fun d hd => by
    simp only [List.mem_cons, List.not_mem_nil, or_false] at hd
    rcases hd with h | h | h
    · rw [h]; exact h1
    · rw [h]; exact h2
    · rw [h]; exact h3
  cases r with
  | light i => exact l2 shp_light (shp_int _)
  | rest a b => exact l3 shp_rest (shp_int _) (shp_int _)
  | value a b => exact l3 shp_value (shp_int _) (shp_int _)
theorem eqv_R (a b : Reason) : PyData.eqv (eR a) (eR b) = decide (a = b) := by
  cases a <;> cases b <;> simp only [eR, PyData.eqv, PyData.eqvAll, sne1, sne2, sne3, sne4, sne5, sne6, Bool.false_and, Bool.and_false] <;> rw [Bool.eq_iff_iff] <;> simp
theorem en_R : En eR 1 := ⟨shp_R, eqv_R⟩
theorem SomeOk.wsok {p : Plan} {s : List Int} (h : SomeOk p s) (hp : p.Ok) : WsOk p (named p s) := named_ok hp h.rng (by have := h.len; have := hp.w8; omega)
theorem bleached_len (p : Plan) (ws : List Wish) (h : p.Ok) : (bleached p ws).length ≤ 4 := by
  unfold bleached
  refine Nat.le_trans (List.length_filter_le ..) ?_
  rw [rangeD_len]; exact h.o4
theorem tired_len (p : Plan) (ws : List Wish) (h : ws.length ≤ 16) : (tired p ws).length ≤ 256 := by
  have := tired_pre_len p ws h ws.length
  rw [List.take_of_length_le (by rw [List.length_zipIdx]; exact Nat.le_refl _)] at this
  exact this
theorem crowded_len (p : Plan) (ws : List Wish) (h : p.houses.length ≤ 4) : (crowded p ws).length ≤ 244 := by
  have := crowded_pre_len p ws h p.houses.length
  rw [List.take_of_length_le (by rw [List.length_zipIdx]; exact Nat.le_refl _)] at this
  exact this
theorem tired_mem {p : Plan} {ws : List Wish} {x : Int × Int} (h : x ∈ tired p ws) : 0 ≤ x.1 ∧ x.1 < x.2 ∧ x.2 < ws.length ∧ tiredB p (wAt ws x.1) (wAt ws x.2) = true := by
  unfold tired at h
  rw [List.mem_flatMap] at h
  obtain ⟨y, hy, hx⟩ := h
  obtain ⟨i, hi⟩ := List.getElem?_of_mem hy
  obtain ⟨h1, h2⟩ := zipIdx_get hi
  rw [List.mem_map] at hx
  obtain ⟨t, ht, rfl⟩ := hx
  unfold tiredRow at ht
  rw [List.mem_filter] at ht
  have hr := rangeD_mem.mp ht.1
  refine ⟨by show 0 ≤ ((y.2 : Nat) : Int); omega, by show ((y.2 : Nat) : Int) < t; omega, by show t < _; omega, ?_⟩
  rw [h2] at ht ⊢
  rw [wAt_nat h1]
  exact ht.2
theorem tired_rng {p : Plan} {s : List Int} {ws : List Wish} (hw : named p s = ws) {x : Int × Int} (h : x ∈ tired p ws) : 0 ≤ x.1 ∧ x.1 < s.length ∧ 0 ≤ x.2 ∧ x.2 < s.length := by
  obtain ⟨h1, h2, h3, _⟩ := tired_mem h
  have e : ws.length = s.length := by rw [← hw]; unfold named; rw [List.length_map]
  omega
end Mus

namespace PL
open PySem PySem.Spec PyProof.Rows L2

/-! ## the script, the town of draws -/
theorem Ex.sqL {K : PySem.W.Frag} {H H' : Hp} {a : Addr} {xs : List V} (e : Ex H H') (h : SqL K H a xs) : SqL K H' a xs := by
  rcases h with (h | ⟨o, h⟩) | h
  · exact .inl (.inl (e _ _ h))
  · exact .inl (.inr ⟨o, e _ _ h⟩)
  · exact .inr h
/-- the script: a list of at most 63 ints that is only read -/
def scr (K : PySem.W.Frag) (a : Addr) (ns : List Int) : Mt where
  fp := []
  P := fun Hm _ v => v = .ref a ∧ SqL K Hm a (ns.map V.int) ∧ ns.length ≤ 63
  mono := fun h e _ => ⟨h.1, e.sqL h.2.1, h.2.2⟩
  al := fun _ a ha => nomatch ha
abbrev kC : Key := Sum.inr (Str.ofString "count")
abbrev kR : Key := Sum.inr (Str.ofString "rests")
abbrev tnK (c : Int) (r : Addr) : List (Key × V) := [(kC, V.int c), (kR, V.ref r)]
structure TownOk (c : Int) (kvs : List (Key × V)) : Prop where
  nd : (kvs.map (·.1)).Nodup
  ks : ∀ k ∈ kvs.map (·.1), ∃ i : Nat, k = .inl (i : Int) ∧ i < 63
  vs : ∀ kv ∈ kvs, ∃ i, kv.2 = .int i
theorem nodup_lt : ∀ (n : Nat) (l : List Nat), l.Nodup → (∀ x ∈ l, x < n) → l.length ≤ n
  | 0, l, _, h => by
    cases l with
    | nil => exact Nat.le_refl _
    | cons a l => exact absurd (h a List.mem_cons_self) (Nat.not_lt_zero _)
  | n + 1, l, nd, h => by
    have h1 := nodup_lt n (l.filter (fun x => decide (x ≠ n))) (nd.filter _) fun x hx => by
      have a := h x (List.mem_filter.mp hx).1
      have b := of_decide_eq_true (List.mem_filter.mp hx).2
      omega
    have h2 : l.length ≤ (l.filter (fun x => decide (x ≠ n))).length + 1 := by
      clear h1 h
      induction l with
      | nil => simp
      | cons a l ih =>
        obtain ⟨q1, q2⟩ := List.nodup_cons.mp nd
        by_cases e : a = n
        · subst e
          have : l.filter (fun x => decide (x ≠ a)) = l := List.filter_eq_self.mpr fun x hx => decide_eq_true fun z => q1 (z ▸ hx)
          rw [List.filter_cons_of_neg (by simp), this, List.length_cons]
          exact Nat.le_refl _
        · rw [List.filter_cons_of_pos (by simp [e]), List.length_cons, List.length_cons]
          have := ih q2
          omega
    omega
theorem TownOk.len {c : Int} {kvs : List (Key × V)} (h : TownOk c kvs) : kvs.length ≤ 63 := by
  have f : ∀ (l : List Key), l.Nodup → (∀ k ∈ l, ∃ i : Nat, k = .inl (i : Int) ∧ i < 63) → ∃ m : List Nat, m.Nodup ∧ m.length = l.length ∧ (∀ x ∈ m, x < 63) ∧ ∀ x ∈ m, (Sum.inl (x : Int) : Key) ∈ l := by
    intro l
    induction l with
    | nil => exact fun _ _ => ⟨[], List.nodup_nil, rfl, by simp, by simp⟩
    | cons a l ih =>
      intro nd h
      obtain ⟨q1, q2⟩ := List.nodup_cons.mp nd
      obtain ⟨m, m1, m2, m3, m4⟩ := ih q2 fun k hk => h k (List.mem_cons_of_mem _ hk)
      obtain ⟨i, rfl, hi⟩ := h a List.mem_cons_self
      refine ⟨i :: m, List.nodup_cons.mpr ⟨fun z => q1 (m4 i z), m1⟩, by simp [m2], fun x hx => ?_, fun x hx => ?_⟩
      · rcases List.mem_cons.mp hx with e | e
        · rw [e]; exact hi
        · exact m3 x e
      · rcases List.mem_cons.mp hx with e | e
        · rw [e]; exact List.mem_cons_self
        · exact List.mem_cons_of_mem _ (m4 x e)
  obtain ⟨m, m1, m2, m3, _⟩ := f _ h.nd h.ks
  have := nodup_lt 63 m m1 m3
  rw [m2, List.length_map] at this
  exact this
def twn (t r : Addr) : Mt where
  fp := [t, r]
  P := fun _ H v => v = .ref t ∧ t ≠ r ∧ ∃ c kvs, H t = some (.dK (tnK c r)) ∧ H r = some (.dK kvs) ∧ TownOk c kvs
  mono := fun h _ k => by
    obtain ⟨h1, h2, c, kvs, h3, h4, h5⟩ := h
    exact ⟨h1, h2, c, kvs, (k _ (by simp)).trans h3, (k _ (by simp)).trans h4, h5⟩
  al := fun h a ha => by
    obtain ⟨h1, h2, c, kvs, h3, h4, h5⟩ := h
    rcases List.mem_cons.mp ha with e | e
    · rw [e, h3]; exact fun z => nomatch z
    · rw [List.mem_singleton.mp e, h4]; exact fun z => nomatch z

/-! ## slots of things that change -/
theorem Sl.updMt {Hm Hm' H H' : Hp} (em : Ex Hm Hm') : ∀ {ρ : List SD} {σ : Sg} {as : List Addr} {i : Nat} {m : Mt}, Sl Hm H ρ σ as → ρ[i]? = some (.mt m) → (∀ a ∈ as, a ∉ m.fp → H' a = H a) → (∀ v, σ[i]? = some (some v) → m.P Hm' H' v) → Sl Hm' H' ρ σ as
  | [], _, _, i, _, _, h, _, _ => by simp at h
  | s :: ρ, σ, as, 0, m, h, e, k, p => by
    have e' : s = .mt m := Option.some.inj e
    subst e'
    cases h with
    | mt a1 a2 h1 => exact .mt (p _ rfl) a2 (h1.mono em fun b hb => k b (List.mem_append_right _ hb) fun z => a2 b z hb)
  | s :: ρ, σ, as, i + 1, m, h, e, k, p => by
    have e' : ρ[i]? = some (.mt m) := by simpa using e
    cases h with
    | un h1 => exact .un (Sl.updMt em h1 e' k fun v hv => p v (by simpa using hv))
    | dat r h1 => exact .dat (r.mono em) (Sl.updMt em h1 e' k fun v hv => p v (by simpa using hv))
    | own a1 a2 a3 a4 h1 =>
      obtain ⟨v, q1, q2, q3⟩ := h1.getM e'
      refine .own ?_ a2 (a3.mono em) a4 (Sl.updMt em h1 e' (fun b hb hn => k b (List.mem_cons_of_mem _ hb) hn) fun v hv => p v (by simpa using hv))
      rw [k _ List.mem_cons_self fun z => a4 (q3 _ z)]
      exact a1
    | mt a1 a2 h1 =>
      rename_i bs v' m'
      obtain ⟨v, q1, q2, q3⟩ := h1.getM e'
      exact .mt (m'.mono a1 em fun b hb => k b (List.mem_append_left _ hb) fun z => a2 b hb (q3 b z)) a2 (Sl.updMt em h1 e' (fun b hb hn => k b (List.mem_append_right _ hb) hn) fun v hv => p v (by simpa using hv))
theorem SA.getM {F H : Hp} {O0 O1 : List Addr} {ρ : List SD} {σ : Sg} {i : Nat} {m : Mt} (s : SA F O0 O1 ρ σ H) (e : ρ[i]? = some (.mt m)) : ∃ v, σ[i]? = some (some v) ∧ m.P (msk (O1 ++ O0) H) H v ∧ ∀ a ∈ m.fp, a ∈ O1 := s.sl.getM e
/-- m has changed, nothing else -/
theorem SA.updMt {F H H' : Hp} {O0 O1 : List Addr} {ρ : List SD} {σ : Sg} {i : Nat} {m : Mt} (s : SA F O0 O1 ρ σ H) (e : ρ[i]? = some (.mt m)) (k : Ex (msk m.fp H) H') (p : ∀ v, σ[i]? = some (some v) → m.P (msk (O1 ++ O0) H') H' v) : SA F O0 O1 ρ σ H' ∧ Ex (msk (O1 ++ O0) H) (msk (O1 ++ O0) H') := by
  obtain ⟨v, q1, q2, q3⟩ := s.getM e
  have em : Ex (msk (O1 ++ O0) H) (msk (O1 ++ O0) H') := fun a o h => by
    obtain ⟨z1, z2⟩ := msk_some h
    rw [msk_out z1]
    exact k a o (by rw [msk_out fun w => z1 (List.mem_append_left _ (q3 a w))]; exact z2)
  refine ⟨⟨fun a o h => ?_, s.sl.updMt em e (fun a ha hn => ?_) p, s.new, fun a ha => ?_⟩, em⟩
  · have hn : a ∉ m.fp := fun z => by rw [(s.new a (q3 a z)).1] at h; cases h
    exact k a o (by rw [msk_out hn]; exact s.fr a o h)
  · cases q : H a with
    | none => exact absurd q (s.sl.al a ha)
    | some o => exact k a o (by rw [msk_out hn]; exact q)
  · have hn : a ∉ m.fp := fun z => (s.new a (q3 a z)).2 ha
    intro z
    cases q : H a with
    | none => exact s.al0 a ha q
    | some o => rw [k a o (by rw [msk_out hn]; exact q)] at z; cases z

/-! ## expressions whose value is open -/
def II (C : Int → Prop) : PyData → Prop := fun d => ∃ i, d = .int i ∧ C i
section
variable {X : Cx} {ρ : List SD} {a b c : Expr} {es : List Expr} {d : PyData} {A B D : PyData → Prop} {pos p : Pos} {x : Str} {P Q R : Int → Prop}
theorem evn_pure (h : Ev X ρ a d) (hd : D d) : EvN X ρ a D := evn_imp h fun d' e => by subst e; exact hd
theorem evn_int (h : Ev X ρ a (.int i)) (hd : P i) : EvN X ρ a (II P) := evn_pure h ⟨_, rfl, hd⟩
theorem evn_opI {op : Operator} {C : Int → Int → Prop} {g : Int → Int → Int} (ho : OpR X (binaryOp op) (rI C fun i j => .int (g i j))) (ha : EvN X ρ a (II P)) (hb : EvN X ρ b (II Q)) (h : ∀ i j, P i → Q j → C i j ∧ R (g i j)) : EvN X ρ (.BinOp a op b pos) (II R) :=
  evn_bin ho ha hb fun da db ⟨i, e1, h1⟩ ⟨j, e2, h2⟩ => by
    subst e1; subst e2
    intro O H x y Qv al hx hy k
    cases hx; cases hy
    exact ⟨i, j, rfl, rfl, (h i j h1 h2).1, k.here ⟨_, rfl, (h i j h1 h2).2⟩ (.int _)⟩
theorem evn_opI0 {op : Operator} {g : Int → Int → Int} (ho : OpR X (binaryOp op) (rI0 fun i j => .int (g i j))) (ha : EvN X ρ a (II P)) (hb : EvN X ρ b (II Q)) (h : ∀ i j, P i → Q j → R (g i j)) : EvN X ρ (.BinOp a op b pos) (II R) :=
  evn_bin ho ha hb fun da db ⟨i, e1, h1⟩ ⟨j, e2, h2⟩ => by
    subst e1; subst e2
    intro O H x y Qv al hx hy k
    cases hx; cases hy
    exact ⟨i, j, rfl, rfl, k.here ⟨_, rfl, h i j h1 h2⟩ (.int _)⟩
theorem evn_add (ha : EvN X ρ a (II P)) (hb : EvN X ρ b (II Q)) (h : ∀ i j, P i → Q j → R (i + j)) : EvN X ρ (.BinOp a .Add b pos) (II R) := evn_opI0 op_add ha hb h
theorem evn_sub (ha : EvN X ρ a (II P)) (hb : EvN X ρ b (II Q)) (h : ∀ i j, P i → Q j → R (i - j)) : EvN X ρ (.BinOp a .Sub b pos) (II R) := evn_opI0 op_sub ha hb h
theorem evn_mul (ha : EvN X ρ a (II P)) (hb : EvN X ρ b (II Q)) (h : ∀ i j, P i → Q j → CMul i j ∧ R (i * j)) : EvN X ρ (.BinOp a .Mult b pos) (II R) := evn_opI op_mul ha hb h
theorem evn_mod (ha : EvN X ρ a (II P)) (hb : EvN X ρ b (II Q)) (h : ∀ i j, P i → Q j → 0 < j ∧ R (i % j)) : EvN X ρ (.BinOp a .Mod b pos) (II R) := evn_opI (C := fun _ j => 0 < j) op_mod ha hb h
theorem evn_fdiv (ha : EvN X ρ a (II P)) (hb : EvN X ρ b (II Q)) (h : ∀ i j, P i → Q j → CDiv i j ∧ R (i / j)) : EvN X ρ (.BinOp a .FloorDiv b pos) (II R) := evn_opI op_fdiv ha hb h
theorem evn_pow (ha : EvN X ρ a (II P)) (hb : EvN X ρ b (II Q)) (h : ∀ i j, P i → Q j → CPow i j ∧ R (i ^ j.toNat)) : EvN X ρ (.BinOp a .Pow b pos) (II R) := evn_opI op_pow ha hb h
theorem evn_if {Bp : Bool → Prop} (hc : PT X c (tT ρ Bp)) (ha : Bp true → EvN X ρ a D) (hb : Bp false → EvN X ρ b D) : EvN X ρ (.IfExp c a b pos) D := by
  refine ⟨fun pins s σ H Q I ⟨F, O0, O1, st, q⟩ => ?_⟩
  refine wpAny_IfExp (thn (hc.run pins s σ H (fun b H' => Bp b ∧ tP ρ D σ H' Q) I ⟨F, O0, O1, st, fun b H' s' e' hd => ⟨hd, F, O0, O1, s', fun v d H2 s2 e2 => q v d H2 s2 (e'.trans e2)⟩⟩) fun z s1 ⟨H1, I1, hz, q1⟩ => ?_)
  cases z with
  | true => exact (ha hz).run pins s1 σ H1 Q I1 q1
  | false => exact (hb hz).run pins s1 σ H1 Q I1 q1
/-- a comparison of ints, its answer open -/
theorem etn_cmpI {op : CmpOp} {g : Int → Int → Bool} (ho : OpR X (compareOp op) (rI0 fun i j => .bl (g i j))) (ha : EvN X ρ a (II P)) (hb : EvN X ρ b (II Q)) (hm : behindInMarks op b = false) : PT X (.Compare a [op] [b] pos) (tT ρ fun k => ∃ i j, P i ∧ Q j ∧ k = g i j) :=
  pt_imp (pt_cmpR ho ha hb hm) fun σ H Qv ⟨F, O0, O1, s, q⟩ => tOp_of (D := fun d => ∃ i j, P i ∧ Q j ∧ d = .bool (g i j)) (fun da db ⟨i, e1, h1⟩ ⟨j, e2, h2⟩ => by
    subst e1; subst e2
    intro O H x y Qv al hx hy k
    cases hx; cases hy
    exact ⟨i, j, rfl, rfl, k.here ⟨i, j, h1, h2, rfl⟩ (.bl _)⟩) σ H _ ⟨F, O0, O1, s, fun v d H' s' e' ⟨i, j, h1, h2, hd⟩ r => by
    subst hd; cases r
    exact ⟨_, rfl, q _ H' s' e' ⟨i, j, h1, h2, rfl⟩⟩⟩
theorem etn_eqI (hr : Room n X.A) (ha : EvN X ρ a (II P)) (hb : EvN X ρ b (II Q)) : PT X (.Compare a [.Eq] [b] pos) (tT ρ fun k => ∃ i j, P i ∧ Q j ∧ k = decide (i = j)) :=
  pt_imp (pt_cmpR op_eq ha hb (nomark _)) fun σ H Qv ⟨F, O0, O1, s, q⟩ => tOp_of (D := fun d => ∃ i j, P i ∧ Q j ∧ d = .bool (decide (i = j))) (fun da db ⟨i, e1, h1⟩ ⟨j, e2, h2⟩ => by
    subst e1; subst e2
    intro O H x y Qv al hx hy k
    cases hx; cases hy
    refine ⟨rfl, ?_⟩
    have e : decide (V.int i = V.int j) = decide (i = j) := by rw [Bool.eq_iff_iff]; simp
    rw [e]
    exact k.here ⟨i, j, h1, h2, rfl⟩ (.bl _)) σ H _ ⟨F, O0, O1, s, fun v d H' s' e' ⟨i, j, h1, h2, hd⟩ r => by
    subst hd; cases r
    exact ⟨_, rfl, q _ H' s' e' ⟨i, j, h1, h2, rfl⟩⟩⟩
/-! the script -/
variable {K : PySem.W.Frag} {sa t r : Addr} {ns : List Int} {i j : Nat}
theorem pe_mt {m : Mt} (hi : X.N[i]? = some x) (hv : Vis X.env.scope x) (h1 : (x == ("__debug__" : Str)) = false := by decide) (h2 : (x == ("__classdict__" : Str)) = false := by decide) : PE X (.Name x pos) (tVar i) := pe_var hi hv h1 h2
/-- if script: is it empty -/
theorem et_scr (i : Nat) (hs : ρ[i]? = some (.mt (scr X.K sa ns)) := by rfl) (hi : X.N[i]? = some x := by rfl) (hv : Vis X.env.scope x := by first | exact Or.inl rfl | exact Or.inr (Or.inl rfl) | exact Or.inr (Or.inr rfl))
    (h1 : (x == ("__debug__" : Str)) = false := by decide) (h2 : (x == ("__classdict__" : Str)) = false := by decide) (he : ∀ whole, isTrue (.Name x pos) X.env whole = (do let v ← whole; standAt (Expr.Name x pos).pos; holding [v] (truthy v)) := by intro _; rfl) : EvT X ρ (.Name x pos) (!ns.isEmpty) :=
  pt_imp (pt_truth (pe_var hi hv h1 h2) he) fun σ H Q ⟨F, O0, O1, s, q⟩ => by
    obtain ⟨v, e1, ⟨e2, e3, e4⟩, _⟩ := s.getM hs
    subst e2
    refine ⟨_, e1, !ns.isEmpty, .inl ⟨_, Ex.unmsk.sqL e3, ?_⟩, q _ H s (Ex.refl _) rfl⟩
    cases ns <;> rfl
theorem ev_scrLen (i : Nat) (hs : ρ[i]? = some (.mt (scr X.K sa ns)) := by rfl) (hg : Gl X "len") (hm : X.mg "len" = none) (hi : X.N[i]? = some x := by rfl) (hv : Vis X.env.scope x := by first | exact Or.inl rfl | exact Or.inr (Or.inl rfl) | exact Or.inr (Or.inr rfl))
    (h1 : (x == ("__debug__" : Str)) = false := by decide) (h2 : (x == ("__classdict__" : Str)) = false := by decide) (he : starEach [Expr.Name x pos] X.env = (false, eval (.Name x pos) X.env) :: starEach [] X.env := by rfl) : Ev X ρ (.Call (.Name "len" p) [.Name x pos] [] pos') (.int (ns.length : Nat)) :=
  pe_imp (pe_callB call_len_seq hg hm PySem.boot_len (pa_cons (pe_var hi hv h1 h2) pa_nil he) (by decide) (by decide) he rfl) fun σ H Q ⟨F, O0, O1, s, q⟩ => by
    obtain ⟨v, e1, ⟨e2, e3, e4⟩, _⟩ := s.getM hs
    subst e2
    refine ⟨_, e1, _, _, rfl, .inl (Ex.unmsk.sqL e3), ?_⟩
    rw [List.length_map]
    exact q _ _ H s (Ex.refl _) rfl (.int _)
theorem evn_scrAt (i : Nat) (hs : ρ[i]? = some (.mt (scr X.K sa ns)) := by rfl) (hb : EvN X ρ b (II fun k => 0 ≤ k ∧ k < ns.length)) (hp : PlainIx b := by exact fun _ _ => rfl) (hi : X.N[i]? = some x := by rfl) (hv : Vis X.env.scope x := by first | exact Or.inl rfl | exact Or.inr (Or.inl rfl) | exact Or.inr (Or.inr rfl))
    (h1 : (x == ("__debug__" : Str)) = false := by decide) (h2 : (x == ("__classdict__" : Str)) = false := by decide) : EvN X ρ (.Subscript (.Name x pos) b pos') (II fun _ => True) :=
  pe_imp (pe_ix ix_list (pe_var hi hv h1 h2) hb hp) fun σ H Q ⟨F, O0, O1, s, q⟩ => by
    obtain ⟨v, e1, _⟩ := s.getM hs
    refine ⟨_, e1, F, O0, O1, s, fun v' d H' s' e' ⟨k, hd, hk⟩ r => ?_⟩
    subst hd; cases r
    obtain ⟨v2, e2, ⟨e3, e4, e5⟩, _⟩ := s'.getM hs
    rw [e1] at e2
    cases e2
    subst e3
    have hj : k.toNat < ns.length := by omega
    refine ⟨sa, ns.map V.int, k, .int ns[k.toNat], rfl, rfl, Ex.unmsk.sqL e4, ?_, q _ _ H' s' e' ⟨_, rfl, trivial⟩ (.int _)⟩
    have hg : (ns.map V.int)[k.toNat]? = some (V.int ns[k.toNat]) := by
      rw [List.getElem?_map, List.getElem?_eq_getElem hj]; rfl
    have q := atI_nat hg
    rw [show ((k.toNat : Nat) : Int) = k from by omega] at q
    exact q
/-! the town -/
variable {n : Nat}
theorem town_get {F H : Hp} {O0 O1 : List Addr} {σ : Sg} (s : SA F O0 O1 ρ σ H) (hs : ρ[j]? = some (.mt (twn t r))) : σ[j]? = some (some (.ref t)) ∧ t ≠ r ∧ t ∈ O1 ∧ r ∈ O1 ∧ ∃ c kvs, H t = some (.dK (tnK c r)) ∧ H r = some (.dK kvs) ∧ TownOk c kvs := by
  obtain ⟨v, e1, ⟨e2, e3, e4⟩, e5⟩ := s.getM hs
  subst e2
  exact ⟨e1, e3, e5 t (by simp [twn]), e5 r (by simp [twn]), e4⟩
theorem key_ne : ¬ (kC = kR) := by decide +kernel
theorem val_count {c : Int} {r : Addr} : valV (tnK c r) kC = some (.int c) := valV_pos rfl
theorem val_rests {c : Int} {r : Addr} : valV (tnK c r) kR = some (.ref r) := (valV_neg key_ne).trans (valV_pos rfl)
theorem put_count {c c' : Int} {r : Addr} : putK (tnK c r) kC (.int c') = (tnK c' r) := by
  have h : ¬ (kR = kC) := fun e => key_ne e.symm
  show (if _ then _ else _) = _
  rw [if_pos (by simp [List.any_cons])]
  show [if kC = kC then (kC, V.int c') else (kC, V.int c), if kR = kC then (kR, V.int c') else (kR, V.ref r)] = _
  rw [if_pos rfl, if_neg h]
/-- town["count"] -/
theorem evn_count (hr : Room n X.A) (j : Nat) {pc : Pos} {jc : Nat} (hs : ρ[j]? = some (.mt (twn t r)) := by rfl) (hns : NoSl (.Constant (.str "count") jc pc) := by exact fun _ _ => rfl) (hi : X.N[j]? = some x := by rfl) (hv : Vis X.env.scope x := by first | exact Or.inl rfl | exact Or.inr (Or.inl rfl) | exact Or.inr (Or.inr rfl))
    (h1 : (x == ("__debug__" : Str)) = false := by decide) (h2 : (x == ("__classdict__" : Str)) = false := by decide) : EvN X ρ (.Subscript (.Name x pos) (.Constant (.str "count") jc pc) pos') (II fun _ => True) :=
  pe_imp (pe_dget (hu_of hr) (pe_var hi hv h1 h2) pe_str hns) fun σ H Q ⟨F, O0, O1, s, q⟩ => by
    obtain ⟨e1, e2, e3, e4, c, kvs, e5, e6, e7⟩ := town_get s hs
    refine ⟨_, e1, t, .int c, rfl, ?_, q _ _ H s (Ex.refl _) ⟨c, rfl, trivial⟩ (.int c)⟩
    have := DGet.k (k := kC) e5
    rw [val_count] at this
    exact this
/-- the town, changed within -/
theorem SA.town {F H : Hp} {O0 O1 : List Addr} {σ : Sg} (s : SA F O0 O1 ρ σ H) (hs : ρ[j]? = some (.mt (twn t r))) {H' : Hp} (k : ∀ a, a ≠ t → a ≠ r → H' a = H a) (p : ∃ c kvs, H' t = some (.dK (tnK c r)) ∧ H' r = some (.dK kvs) ∧ TownOk c kvs) :
    SA F O0 O1 ρ σ H' ∧ Ex (msk (O1 ++ O0) H) (msk (O1 ++ O0) H') := by
  obtain ⟨e1, e2, e3, e4, _⟩ := town_get s hs
  refine s.updMt hs (fun a o h => ?_) fun v hv => ?_
  · obtain ⟨z1, z2⟩ := msk_some h
    rw [k a (fun e => z1 (by rw [e]; simp [twn])) (fun e => z1 (by rw [e]; simp [twn]))]
    exact z2
  · rw [e1] at hv
    cases hv
    exact ⟨rfl, e2, p⟩
/-- town["count"] = an int -/
theorem hs_count {Po : Po} {rest : List Stmt} {value : Expr} {pc spos : Pos} {jc : Nat} {C : Int → Prop} (hr : Room n X.A) (j : Nat) (hs : ρ[j]? = some (.mt (twn t r)) := by rfl) (hval : EvN X ρ value (II C)) (k : HSs X rest ρ Po) (hi : X.N[j]? = some x := by rfl) (hv : Vis X.env.scope x := by first | exact Or.inl rfl | exact Or.inr (Or.inl rfl) | exact Or.inr (Or.inr rfl))
    (h1 : (x == ("__debug__" : Str)) = false := by decide) (h2 : (x == ("__classdict__" : Str)) = false := by decide) (hsw : swapsWith value (some (.Subscript (.Name x pos) (.Constant (.str "count") jc pc) pos')) spos.line X.env = pure false := by rfl) :
    HSs X (.Assign [.Subscript (.Name x pos) (.Constant (.str "count") jc pc) pos'] value spos :: rest) ρ Po :=
  hs_cons (M := (· = ρ)) (ps_imp (ps_dput (hu_of hr) (pe_var hi hv h1 h2) pe_str hval hsw) fun Dn σ H ⟨F, O0, O1, s, nx, rt, bk, ct⟩ => ⟨F, O0, O1, s, fun v d H' s' e' ⟨i, hd, _⟩ rv => by
    subst hd; cases rv
    obtain ⟨e1, e2, e3, e4, c, kvs, e5, e6, e7⟩ := town_get s' hs
    refine ⟨_, e1, t, _, rfl, DPut.k (k := kC) e5 (by show 2 < sizeLine; decide), ?_⟩
    rw [put_count]
    obtain ⟨s2, _⟩ := s'.town hs (H' := upd H' t (.dK (tnK i r))) (fun a h1 _ => upd_ne h1) ⟨i, kvs, upd_same, by rw [upd_ne (Ne.symm e2)]; exact e6, ⟨e7.nd, e7.ks, e7.vs⟩⟩
    exact nx ρ O1 σ _ rfl s2⟩) fun r' z => by subst z; exact k
/-- town["rests"].get(at, d) -/
theorem evn_rest {f e : Expr} {pc cpos apos : Pos} {jc : Nat} (hr : Room n X.A) (j : Nat) (hs : ρ[j]? = some (.mt (twn t r)) := by rfl) (he : EvN X ρ e (II fun _ => True)) (hf : EvN X ρ f (II fun _ => True)) (hns : NoSl (.Constant (.str "rests") jc pc) := by exact fun _ _ => rfl)
    (m : M2 X (.Subscript (.Name x pos) (.Constant (.str "rests") jc pc) pos') "get" apos e f cpos := by exact ⟨rfl, rfl, rfl, rfl⟩) (hi : X.N[j]? = some x := by rfl) (hv : Vis X.env.scope x := by first | exact Or.inl rfl | exact Or.inr (Or.inl rfl) | exact Or.inr (Or.inr rfl))
    (h1 : (x == ("__debug__" : Str)) = false := by decide) (h2 : (x == ("__classdict__" : Str)) = false := by decide) : EvN X ρ (.Call (.Attribute (.Subscript (.Name x pos) (.Constant (.str "rests") jc pc) pos') "get" apos) [e, f] [] cpos) (II fun _ => True) :=
  pe_imp (pe_dget2 (hu_of hr) (pe_dget (hu_of hr) (pe_var hi hv h1 h2) pe_str hns) he hf m) fun σ H Q ⟨F, O0, O1, s, q⟩ => by
    obtain ⟨e1, e2, e3, e4, c, kvs, e5, e6, e7⟩ := town_get s hs
    have g := DGet.k (k := kR) e5
    rw [val_rests] at g
    refine ⟨_, e1, t, .ref r, rfl, g, r, rfl, .inl ⟨kvs, .inl e6⟩, F, O0, O1, s, fun v d H1 s1 em ⟨i, hd, _⟩ rv => ⟨F, O0, O1, s1, fun v2 d2 H2 s2 em2 ⟨i2, hd2, _⟩ rv2 => ?_⟩⟩
    subst hd; cases rv; subst hd2; cases rv2
    obtain ⟨_, _, _, _, c', kvs', e5', e6', e7'⟩ := town_get s2 hs
    refine ⟨_, DGet.k (k := Sum.inl i) e6', ?_⟩
    cases w : valV kvs' (Sum.inl i) with
    | none => exact q _ _ H2 s2 (em.trans em2) ⟨i2, rfl, trivial⟩ (.int _)
    | some v =>
      obtain ⟨z, rfl⟩ : ∃ z, v = .int z := by
        unfold valV at w
        cases fd : (kvs'.find? fun kv => decide (kv.1 = Sum.inl i)) with
        | none => rw [fd] at w; cases w
        | some kv =>
          rw [fd] at w
          obtain ⟨z, hz⟩ := e7'.vs kv (List.mem_of_find?_eq_some fd)
          exact ⟨z, by rw [← hz]; exact (Option.some.inj w).symm⟩
      exact q _ _ H2 s2 (em.trans em2) ⟨z, rfl, trivial⟩ (.int _)
/-- town["rests"][at] = an int -/
theorem hs_rest {Po : Po} {rest : List Stmt} {value e : Expr} {pc spos epos : Pos} {jc : Nat} (hr : Room n X.A) (j : Nat) (hs : ρ[j]? = some (.mt (twn t r)) := by rfl) (hval : EvN X ρ value (II fun _ => True)) (he : EvN X ρ e (II fun k => 0 ≤ k ∧ k < 63)) (k : HSs X rest ρ Po) (hns : NoSl (.Constant (.str "rests") jc pc) := by exact fun _ _ => rfl)
    (hi : X.N[j]? = some x := by rfl) (hv : Vis X.env.scope x := by first | exact Or.inl rfl | exact Or.inr (Or.inl rfl) | exact Or.inr (Or.inr rfl))
    (h1 : (x == ("__debug__" : Str)) = false := by decide) (h2 : (x == ("__classdict__" : Str)) = false := by decide) (hsw : swapsWith value (some (.Subscript (.Subscript (.Name x pos) (.Constant (.str "rests") jc pc) pos') e epos)) spos.line X.env = pure false := by rfl) :
    HSs X (.Assign [.Subscript (.Subscript (.Name x pos) (.Constant (.str "rests") jc pc) pos') e epos] value spos :: rest) ρ Po :=
  hs_cons (M := (· = ρ)) (ps_imp (ps_dput (hu_of hr) (pe_dget (hu_of hr) (pe_var hi hv h1 h2) pe_str hns) he hval hsw) fun Dn σ H ⟨F, O0, O1, s, nx, rt, bk, ct⟩ => ⟨F, O0, O1, s, fun v d H' s' e' ⟨i, hd, _⟩ rv => by
    subst hd; cases rv
    obtain ⟨e1, e2, e3, e4, c, kvs, e5, e6, e7⟩ := town_get s' hs
    have g := DGet.k (k := kR) e5
    rw [val_rests] at g
    refine ⟨_, e1, t, .ref r, rfl, g, F, O0, O1, s', fun v2 d2 H2 s2 em2 ⟨i2, hd2, hk⟩ rv2 => ?_⟩
    subst hd2; cases rv2
    obtain ⟨_, _, _, _, c', kvs', e5', e6', e7'⟩ := town_get s2 hs
    refine ⟨r, _, rfl, DPut.k (k := Sum.inl i2) e6' (Nat.lt_of_le_of_lt e7'.len (by decide)), ?_⟩
    have ok : TownOk c' (putK kvs' (Sum.inl i2) (.int i)) := by
      unfold putK
      split
      · refine ⟨?_, fun k hk' => ?_, fun kv hkv => ?_⟩
        · rw [List.map_map]
          have : ((fun x : Key × V => x.1) ∘ fun kv => if kv.1 = Sum.inl i2 then (kv.1, V.int i) else kv) = fun kv => kv.1 := by
            funext kv
            simp only [Function.comp]
            split <;> rfl
          rw [this]; exact e7'.nd
        · rw [List.map_map] at hk'
          have : ((fun x : Key × V => x.1) ∘ fun kv => if kv.1 = Sum.inl i2 then (kv.1, V.int i) else kv) = fun kv => kv.1 := by
            funext kv
            simp only [Function.comp]
            split <;> rfl
          rw [this] at hk'; exact e7'.ks k hk'
        · obtain ⟨kv', h1, rfl⟩ := List.mem_map.mp hkv
          split
          · exact ⟨i, rfl⟩
          · exact e7'.vs kv' h1
      · rename_i hno
        have hnone : valV kvs' (Sum.inl i2) = none := by
          rw [valV_any] at hno
          cases w : valV kvs' (Sum.inl i2) with
          | none => rfl
          | some _ => rw [w] at hno; exact absurd rfl hno
        refine ⟨?_, fun k hk' => ?_, fun kv hkv => ?_⟩
        · have := nd_putK (V.int i) e7'.nd hnone
          rw [putK_new _ hnone] at this
          exact this
        · rw [List.map_append] at hk'
          rcases List.mem_append.mp hk' with z | z
          · exact e7'.ks k z
          · rw [List.mem_singleton.mp z]
            exact ⟨i2.toNat, by show (Sum.inl i2 : Key) = _; rw [Int.toNat_of_nonneg hk.1], by omega⟩
        · rcases List.mem_append.mp hkv with z | z
          · exact e7'.vs kv z
          · rw [List.mem_singleton.mp z]; exact ⟨i, rfl⟩
    obtain ⟨s3, _⟩ := s2.town hs (H' := upd H2 r (.dK (putK kvs' (Sum.inl i2) (.int i)))) (fun a _ h2 => upd_ne h2) ⟨c', _, by rw [upd_ne e2]; exact e5', upd_same, ok⟩
    exact nx ρ O1 σ _ rfl s3⟩) fun r' z => by subst z; exact k
end

/-! ## defs that draw: script, town, then data -/
def spT (K : PySem.W.Frag) (C : Ct) : Sp := fun vs H Q _ => ∃ (O0 : List Addr) (sa t r : Addr) (ns : List Int) (a : C.A) (us : List V), vs = .ref sa :: .ref t :: us ∧ C.pre a ∧ Al (t :: r :: O0) H ∧ t ∉ O0 ∧ r ∉ O0 ∧ SqL K (msk (t :: r :: O0) H) sa (ns.map V.int) ∧ ns.length ≤ 63 ∧
  (twn t r).P H H (.ref t) ∧ RpA (msk (t :: r :: O0) H) us (C.enc a) ∧
  ∀ v d H', Ex (msk [t, r] H) H' → (twn t r).P H' H' (.ref t) → C.res a d → Rp (msk (t :: r :: O0) H') v d → Q v H'
def DefT (P : Program) (w : World) (K : PySem.W.Frag) (mg : Str → Option Value) (base : Heap) (k : Nat) (x : Str) (ps : List Str) (C : Ct) : Prop :=
  ∃ f fd, FnOk P w K mg base CX0 k f fd ps (spT K C) ∧ mg x = some (.ref f) ∧ PySem.W.keepIn K (.ref f) = true ∧ Kw fd ps
section
variable {P : Program} {w : World} {K : PySem.W.Frag} {mg : Str → Option Value} {base : Heap}
theorem defT_mk {x : Str} {st : Stmt} {f : Addr} {fd : FuncData} {N ps : List Str} {k : Nat} {C : Ct} (A : DefAt K mg x st ps f fd) (S : FnScope N ps (defScope st)) (hl : ∀ a, (C.enc a).length + 2 = ps.length)
    (body : ∀ a sa t r ns, C.pre a → ns.length ≤ 63 → ∀ (cdv : Value) (A : Around) (outer : List Env) (s : Shared) (H : Hp) (E : XK), Room k (A.deeper (envOfC x (defScope st) s.heap.objs.size f cdv)) →
      HSs (cxOf CX0 P w K mg base N x (defScope st) f cdv A outer s H E).nox (defBody st) (.mt (scr K sa ns) :: .mt (twn t r) :: ((C.enc a).map SD.dat ++ List.replicate (N.length - ((C.enc a).length + 2)) SD.un))
        { nx := fun ρ => C.res a .none ∧ ρ[1]? = some (.mt (twn t r)), rt := fun d ρ => C.res a d ∧ ρ[1]? = some (.mt (twn t r)) }) :
    DefT P w K mg base (k + 1) x ps C := by
  refine ⟨f, fd, ?_, A.at_, A.fn.kp, A.kw⟩
  refine A.fn.ok S (fun vs H Q E ⟨O0, sa, t, r, ns, a, us, e, _, _, _, _, _, _, _, r', _⟩ => by rw [e, List.length_cons, List.length_cons, r'.len]; exact hl a) (fun cdv A outer s H vs Q E hr ⟨O0, sa, t, r, ns, a, us, e, hp, al, t0, r0, hS, hn, tw, ra, kt⟩ => ?_)
  have e2 : (msk (t :: r :: O0) H) = msk ([t, r] ++ O0) H := rfl
  refine ⟨_, body a sa t r ns hp hn cdv A outer s H E hr, msk [t, r] H, O0, [t, r], ⟨Ex.unmsk, ?_, fun b hb => ⟨msk_in hb, fun z => ?_⟩, fun b hb => al b (List.mem_cons_of_mem _ (List.mem_cons_of_mem _ hb))⟩, ?_, ?_, fun _ _ _ _ z => z.elim, fun _ _ _ _ z => z.elim⟩
  · rw [e]
    unfold L2.start
    have hst : N.length - (V.ref sa :: V.ref t :: us).length = N.length - ((C.enc a).length + 2) := by rw [List.length_cons, List.length_cons, ra.len]
    rw [hst]
    exact Sl.mt (m := scr K sa ns) ⟨rfl, hS, hn⟩ (fun a ha => by cases ha) (Sl.mt (m := twn t r) tw (fun a _ => by simp) (Sl.start ra))
  · rcases List.mem_cons.mp hb with q | q
    · rw [q] at z; exact t0 z
    · rw [List.mem_singleton.mp q] at z; exact r0 z
  · intro ρ' O1' σ' H' ⟨q1, q2⟩ s'
    obtain ⟨v, g1, g2, g3⟩ := s'.getM q2
    have g2' : (twn t r).P H' H' (.ref t) := by
      obtain ⟨h1, h2, h3⟩ := g2
      exact ⟨rfl, h2, h3⟩
    exact kt .non .none H' s'.fr g2' q1 .non
  · intro v d ρ' O1' σ' H' ⟨q1, q2⟩ s' r'
    obtain ⟨v', g1, g2, g3⟩ := s'.getM q2
    have g2' : (twn t r).P H' H' (.ref t) := by
      obtain ⟨h1, h2, h3⟩ := g2
      exact ⟨rfl, h2, h3⟩
    refine kt v d H' s'.fr g2' q1 (r'.mono (Ex.mskSub fun b hb => ?_))
    rcases List.mem_cons.mp hb with z | z
    · rw [z]; exact List.mem_append_left _ (g3 t (by simp [twn]))
    · rcases List.mem_cons.mp z with z | z
      · rw [z]; exact List.mem_append_left _ (g3 r (by simp [twn]))
      · exact List.mem_append_right _ z
section
variable {X : Cx} {ρ : List SD} {e1 e2 : Expr} {es : List Expr} {x x1 x2 : Str} {p p1 p2 pos : Pos} {k n : Nat} {ps : List Str} {C : Ct} {D : PyData → Prop} {sa t r : Addr} {ns : List Int}
theorem evn_callT {E : List PyData → Prop} (F : DefT X.prog X.w X.K X.mg X.base k x ps C) (i j : Nat) (hr : Room n X.A) (hg : Gl X x) (ha : EvAN X ρ es E) (hG : ∀ ds, E ds → ∃ a, ds = C.enc a ∧ C.pre a ∧ ∀ d, C.res a d → D d) (hs : ρ[i]? = some (.mt (scr X.K sa ns)) := by rfl) (ht : ρ[j]? = some (.mt (twn t r)) := by rfl) (hkn : k ≤ n := by decide)
    (hi : X.N[i]? = some x1 := by rfl) (hv : Vis X.env.scope x1 := by first | exact Or.inl rfl | exact Or.inr (Or.inl rfl) | exact Or.inr (Or.inr rfl)) (hj : X.N[j]? = some x2 := by rfl) (hv2 : Vis X.env.scope x2 := by first | exact Or.inl rfl | exact Or.inr (Or.inl rfl) | exact Or.inr (Or.inr rfl))
    (h1 : (x1 == ("__debug__" : Str)) = false := by decide) (h2 : (x1 == ("__classdict__" : Str)) = false := by decide) (h3 : (x2 == ("__debug__" : Str)) = false := by decide) (h4 : (x2 == ("__classdict__" : Str)) = false := by decide)
    (hdb : (x == ("__debug__" : Str)) = false := by decide) (he : starEach (.Name x1 p1 :: .Name x2 p2 :: es) X.env = (false, eval (.Name x1 p1) X.env) :: starEach (.Name x2 p2 :: es) X.env := by rfl) (he2 : starEach (.Name x2 p2 :: es) X.env = (false, eval (.Name x2 p2) X.env) :: starEach es X.env := by rfl)
    (hpl : (backTo pos (starEach (.Name x2 p2 :: es) X.env)).any (·.1) = false := by rfl) : EvN X ρ (.Call (.Name x p) (.Name x1 p1 :: .Name x2 p2 :: es) [] pos) D := by
  obtain ⟨f, fd, F1, F2, F3, F4⟩ := F
  refine pe_imp (pe_call F1 (hr.mono hkn) hg F2 F3 F4.bd .nil pass0 (pa_cons (pe_var hi hv h1 h2) (pa_cons (pe_var hj hv2 h3 h4) ha he2) he) hdb he hpl) fun σ H Q ⟨F, O0, O1, s, q⟩ => ?_
  obtain ⟨v, g1, ⟨g2, g3, g4⟩, _⟩ := s.getM hs
  subst g2
  obtain ⟨e1, _⟩ := town_get s ht
  refine ⟨_, g1, _, e1, F, O0, O1, s, fun vs ds H1 s1 em hd r1 => ?_⟩
  show spT X.K C ((V.ref sa :: V.ref t :: vs) ++ []) H1 Q E0
  rw [List.append_nil]
  obtain ⟨a, rfl, hp, hD⟩ := hG ds hd
  obtain ⟨v2, g5, ⟨g6, g7, g8⟩, _⟩ := s1.getM hs
  obtain ⟨e1', e2, e3, e4, tw⟩ := town_get s1 ht
  have ec : msk (t :: r :: ((O1 ++ O0).filter fun b => decide (b ≠ t ∧ b ≠ r))) = msk (O1 ++ O0) := by
    funext H
    refine msk_congr (fun b => ?_) H
    rw [List.mem_cons, List.mem_cons, List.mem_filter, decide_eq_true_iff]
    constructor
    · rintro (z | z | z)
      · rw [z]; exact List.mem_append_left _ e3
      · rw [z]; exact List.mem_append_left _ e4
      · exact z.1
    · intro z
      by_cases c1 : b = t
      · exact .inl c1
      · by_cases c2 : b = r
        · exact .inr (.inl c2)
        · exact .inr (.inr ⟨z, c1, c2⟩)
  refine ⟨(O1 ++ O0).filter fun b => decide (b ≠ t ∧ b ≠ r), sa, t, r, ns, a, vs, rfl, hp, fun b hb => ?_, fun z => ?_, fun z => ?_, ?_, g8, ⟨rfl, e2, tw⟩, ?_, fun v d H' ex tw' hd' rp => ?_⟩
  · rcases List.mem_cons.mp hb with z | z
    · rw [z]; exact s1.al t (List.mem_append_left _ e3)
    · rcases List.mem_cons.mp z with z | z
      · rw [z]; exact s1.al r (List.mem_append_left _ e4)
      · exact s1.al b (List.mem_filter.mp z).1
  · exact (of_decide_eq_true (List.mem_filter.mp z).2).1 rfl
  · exact (of_decide_eq_true (List.mem_filter.mp z).2).2 rfl
  · rw [ec]; exact g7
  · rw [ec]; exact r1
  · rw [ec] at rp
    obtain ⟨s2, em2⟩ := s1.updMt ht ex fun v hv' => by
      rw [e1'] at hv'
      cases hv'
      exact ⟨rfl, tw'.2.1, tw'.2.2⟩
    exact q v d H' s2 (em.trans em2) (hD d hd') rp
end
end
end PL

namespace PL
open PySem PySem.Spec PyProof.Rows L2

section
variable {X : Cx} {ρ : List SD} {elt tg iter : Expr} {ifs : List Expr} {scope : Scope} {pos p : Pos} {a b : Expr} {es : List Expr} {D : PyData → Prop}
theorem pt_imps {es : List Expr} {B B' : Bool → Prop} (h : PTs X es (tT ρ B)) (k : ∀ b, B b → B' b) : PTs X es (tT ρ B') := pts_imp h fun σ H Q ⟨F, O0, O1, s, q⟩ => ⟨F, O0, O1, s, fun b H' s' e' hb => q b H' s' e' (k b hb)⟩
theorem pt_impt {e : Expr} {B B' : Bool → Prop} (h : PT X e (tT ρ B)) (k : ∀ b, B b → B' b) : PT X e (tT ρ B') := pt_imp h fun σ H Q ⟨F, O0, O1, s, q⟩ => ⟨F, O0, O1, s, fun b H' s' e' hb => q b H' s' e' (k b hb)⟩
/-- a comprehension over a known list, its answers open -/
theorem Lc.mkN {α : Type} {xs : List α} {enc : α → PyData} (B : α → Bool → Prop) (G : α → PyData → Prop) (Pv : List α → List PyData → Prop) (own : List (Str × Nat)) (ρt : α → List SD) (hi : EvI X ρ tg iter (xs.map enc)) (ok : BlkOk X.N X.env.scope scope own) (hp : (own.map (·.2)).all (plainAt ρ) = true)
    (hg : ∀ x ∈ xs, ∀ (s : Shared) (H : Hp) (C : Addr) (cl : List (Str × Addr)) (fp : List Addr), EvG (X.blk s H scope (compEnvC scope cl C X.env) fp) tg (wipeD ρ (own.map (·.2))) (enc x) (ρt x) (own.map (·.2)))
    (hw : ∀ x ∈ xs, wipeD (ρt x) (own.map (·.2)) = wipeD ρ (own.map (·.2))) (hp' : ∀ x ∈ xs, (own.map (·.2)).all (plainAt (ρt x)) = true)
    (ht : ∀ x ∈ xs, ∀ (s : Shared) (H : Hp) (C : Addr) (cl : List (Str × Addr)) (fp : List Addr), PTs (X.blk s H scope (compEnvC scope cl C X.env) fp) ifs (tT (ρt x) (B x)))
    (he : ∀ x ∈ xs, B x true → ∀ (s : Shared) (H : Hp) (C : Addr) (cl : List (Str × Addr)) (fp : List Addr), EvN (X.blk s H scope (compEnvC scope cl C X.env) fp) (ρt x) elt (G x))
    (h0 : Pv [] []) (h1 : ∀ l x es z, x ∈ xs → Pv l es → B x true → G x z → Pv (l ++ [x]) (es ++ [z])) (h2 : ∀ l x es, x ∈ xs → Pv l es → B x false → Pv (l ++ [x]) es) :
    Lc X ρ elt tg iter ifs scope own (Eq (xs.map enc)) (fun _ i b => ∃ x, xs[i]? = some x ∧ B x b) (fun _ i d => ∃ x, xs[i]? = some x ∧ G x d) (fun _ i => match xs[i]? with | some x => ρt x | none => []) (fun _ i es => Pv (xs.take i) es) := by
  have mem : ∀ {i : Nat} {x : α}, xs[i]? = some x → x ∈ xs := fun h => List.mem_of_getElem? h
  have here : ∀ {i : Nat} {d : PyData}, (xs.map enc)[i]? = some d → ∃ x, xs[i]? = some x ∧ enc x = d := fun {i d} h => by
    rw [List.getElem?_map] at h
    cases q : xs[i]? with
    | none => rw [q] at h; cases h
    | some x => rw [q] at h; exact ⟨x, rfl, Option.some.inj h⟩
  have tk : ∀ {i : Nat} {x : α}, xs[i]? = some x → xs.take (i + 1) = xs.take i ++ [x] := fun {i x} h => by
    rw [List.take_add_one, h]; rfl
  refine ⟨hi, ok, fun i hi => List.all_eq_true.mp hp i hi, fun ds i d hE hd => ?_, fun ds i d hE hd => ?_, fun ds i d hE hd => ?_, fun ds i d hE hd => ?_, fun ds i d hE hd hB => ?_, fun ds _ => h0, fun ds i es z hE hl pv hB hG => ?_, fun ds i es hE hl pv hB => ?_⟩
  · subst hE; obtain ⟨x, hx, rfl⟩ := here hd; rw [hx]; exact hg x (mem hx)
  · subst hE; obtain ⟨x, hx, rfl⟩ := here hd; rw [hx]; exact hw x (mem hx)
  · subst hE; obtain ⟨x, hx, rfl⟩ := here hd; rw [hx]; exact fun j hj => List.all_eq_true.mp (hp' x (mem hx)) j hj
  · subst hE; obtain ⟨x, hx, rfl⟩ := here hd; rw [hx]
    intro s H C cl fp
    refine pts_imp (ht x (mem hx) s H C cl fp) fun σ H Q ⟨F, O0, O1, s, k⟩ => ⟨F, O0, O1, s, fun b H' s' e' hb => k b H' s' e' ⟨x, rfl, hb⟩⟩
  · subst hE; obtain ⟨x, hx, rfl⟩ := here hd; obtain ⟨x', hx', hb⟩ := hB
    rw [hx] at hx'; cases hx'
    rw [hx]
    intro s H C cl fp
    exact evn_imp (he x (mem hx) hb s H C cl fp) fun d hd => ⟨x, rfl, hd⟩
  · obtain ⟨x, hx, hb⟩ := hB; obtain ⟨x', hx', hz⟩ := hG
    rw [hx] at hx'; cases hx'
    rw [tk hx]; exact h1 _ x es z (mem hx) pv hb hz
  · obtain ⟨x, hx, hb⟩ := hB
    rw [tk hx]; exact h2 _ x es (mem hx) pv hb
theorem evn_lcN (hc : X.calm = true) (hN : X.N.Nodup) {α : Type} {xs : List α} {enc : α → PyData} {Pv : List α → List PyData → Prop} {own : List (Str × Nat)} {ρ' : List PyData → Nat → List SD} {B G}
    (L : Lc X ρ elt tg iter ifs scope own (Eq (xs.map enc)) B G ρ' (fun _ i es => Pv (xs.take i) es)) (hD : ∀ es, Pv xs es → D (.list es)) (hs : ∀ x, foldedSetIterable iter X.env x = pure x := by intro _; rfl) : EvN X ρ (.ListComp elt [⟨tg, iter, ifs, 0⟩] scope pos) D :=
  evn_of_f (ef_lc hc hN L hs) fun es ⟨ds, e, pv⟩ => by
    subst e
    rw [List.length_map, List.take_length] at pv
    exact hD es pv
theorem evn_lcs {α : Type} (xs : List α) (enc : α → PyData) (B : α → Bool → Prop) (G : α → PyData → Prop) (Pv : List α → List PyData → Prop) (own : List (Str × Nat)) (ρt : α → List SD) (hc : X.calm = true) (hN : X.N.Nodup) (hi : EvI X ρ tg iter (xs.map enc)) (ok : BlkOk X.N X.env.scope scope own) (hp : (own.map (·.2)).all (plainAt ρ) = true)
    (hg : ∀ x ∈ xs, ∀ (s : Shared) (H : Hp) (C : Addr) (cl : List (Str × Addr)) (fp : List Addr), EvG (X.blk s H scope (compEnvC scope cl C X.env) fp) tg (wipeD ρ (own.map (·.2))) (enc x) (ρt x) (own.map (·.2)))
    (hw : ∀ x ∈ xs, wipeD (ρt x) (own.map (·.2)) = wipeD ρ (own.map (·.2))) (hp' : ∀ x ∈ xs, (own.map (·.2)).all (plainAt (ρt x)) = true)
    (ht : ∀ x ∈ xs, ∀ (s : Shared) (H : Hp) (C : Addr) (cl : List (Str × Addr)) (fp : List Addr), PTs (X.blk s H scope (compEnvC scope cl C X.env) fp) ifs (tT (ρt x) (B x)))
    (he : ∀ x ∈ xs, B x true → ∀ (s : Shared) (H : Hp) (C : Addr) (cl : List (Str × Addr)) (fp : List Addr), EvN (X.blk s H scope (compEnvC scope cl C X.env) fp) (ρt x) elt (G x))
    (h0 : Pv [] []) (h1 : ∀ l x es z, x ∈ xs → Pv l es → B x true → G x z → Pv (l ++ [x]) (es ++ [z])) (h2 : ∀ l x es, x ∈ xs → Pv l es → B x false → Pv (l ++ [x]) es)
    (hD : ∀ es, Pv xs es → D (.list es)) (hs : ∀ x, foldedSetIterable iter X.env x = pure x := by intro _; rfl) : EvN X ρ (.ListComp elt [⟨tg, iter, ifs, 0⟩] scope pos) D :=
  evn_lcN (Pv := Pv) hc hN (Lc.mkN B G Pv own ρt hi ok hp hg hw hp' ht he h0 h1 h2) hD hs
theorem cd_imp {r : List V → Hp → VK → Prop} {ds : List PyData} {A B : PyData → Prop} (h : CD r ds A) (k : ∀ d, A d → B d) : CD r ds B := fun O H xs Q al ra kt => h O H xs Q al ra (fun v d H' e hd rp => kt v d H' e (k d hd) rp)
theorem evn_tupleL (hg : Gl X "tuple") (hm : X.mg "tuple" = none) (ha : EvN X ρ a fun d => ∃ es, d = .list es ∧ D (.tuple es)) (hs : starEach [a] X.env = (false, eval a X.env) :: starEach [] X.env := by rfl) : EvN X ρ (.Call (.Name "tuple" p) [a] [] pos) D :=
  evn_callTy call_tuple_of hg hm (by decide +kernel) (ean_cons ha ea_nil hs) (fun ds ⟨d, r, e, ⟨es, e2, hd⟩, e3⟩ => by
    subst e; subst e2; subst e3
    exact cd_imp cd_tuple fun d hd' => by subst hd'; exact hd) (by decide) (by decide) hs rfl
theorem evn_catT {A B : List PyData → Prop} (ha : EvN X ρ a fun d => ∃ xs, d = .tuple xs ∧ A xs) (hb : EvN X ρ b fun d => ∃ ys, d = .tuple ys ∧ B ys) (hl : ∀ xs ys, A xs → B ys → xs.length + ys.length ≤ big ∧ D (.tuple (xs ++ ys))) : EvN X ρ (.BinOp a .Add b pos) D :=
  evn_bin op_catA ha hb fun da db ⟨xs, e1, h1⟩ ⟨ys, e2, h2⟩ => by
    subst e1; subst e2
    obtain ⟨g1, g2⟩ := hl xs ys h1 h2
    intro O H x y Q al hx hy k
    exact od_catT g1 O H x y Q al hx hy fun v d H' e hd rp => k v d H' e (by subst hd; exact g2) rp
theorem ev_pow {i j : Int} (ha : Ev X ρ a (.int i)) (hb : Ev X ρ b (.int j)) (hc : CPow i j) : Ev X ρ (.BinOp a .Pow b pos) (.int (i ^ j.toNat)) := ev_bin op_pow ha hb (od_I hc)
theorem rpA_ints {Hm : Hp} : ∀ ns : List Int, RpA Hm (ns.map V.int) (ns.map PyData.int)
  | [] => .nil
  | n :: ns => .cons (.int n) (rpA_ints ns)
theorem rgV_eq (lo hi : Int) : rgV lo hi = (rangeD lo (hi - lo).toNat).map V.int := by
  unfold rgV rangeD
  rw [List.map_map]; rfl
/-- tuple(range(n)) -/
theorem evn_tupR1 {q : Pos} {A : PyData → Prop} (hc : X.calm = true) (hg : Gl X "tuple") (hm : X.mg "tuple" = none) (hg2 : Gl X "range") (hm2 : X.mg "range" = none) (ha : EvN X ρ a A) (hA : ∀ d, A d → ∃ n : Nat, d = .int n ∧ n ≤ 4096 ∧ D (.tuple ((rangeD 0 n).map PyData.int)))
    (n1 : starEach [a] X.env = (false, eval a X.env) :: starEach [] X.env := by rfl) (n2 : starEach [.Call (.Name "range" p) [a] [] q] X.env = (false, eval (.Call (.Name "range" p) [a] [] q) X.env) :: starEach [] X.env := by rfl) {p2 : Pos} : EvN X ρ (.Call (.Name "tuple" p2) [.Call (.Name "range" p) [a] [] q] [] pos) D :=
  pe_imp (pe_tupRg hc hg hm (prg_1 hg2 hm2 ha n1) n2) fun σ H Q ⟨F, O0, O1, s, k⟩ => ⟨F, O0, O1, s, fun v d H1 s1 e1 hd r => by
    obtain ⟨n, rfl, h1, h2⟩ := hA d hd
    cases r
    refine ⟨n, rfl, RgOk.of_le (by omega) (by omega) (by omega) (by omega), ?_⟩
    rw [rgV_eq]
    have e0 : ((n : Int) - 0).toNat = n := by omega
    rw [e0]
    exact (s1.kt e1 k).tup s1.al h2 (by rw [List.length_map, rangeD_len]; exact h1) (rpA_ints _)⟩
theorem ev_tupR1 {q : Pos} {n : Nat} (hc : X.calm = true) (hg : Gl X "tuple") (hm : X.mg "tuple" = none) (hg2 : Gl X "range") (hm2 : X.mg "range" = none) (ha : Ev X ρ a (.int n)) (hn : n ≤ 4096)
    (n1 : starEach [a] X.env = (false, eval a X.env) :: starEach [] X.env := by rfl) (n2 : starEach [.Call (.Name "range" p) [a] [] q] X.env = (false, eval (.Call (.Name "range" p) [a] [] q) X.env) :: starEach [] X.env := by rfl) {p2 : Pos} : Ev X ρ (.Call (.Name "tuple" p2) [.Call (.Name "range" p) [a] [] q] [] pos) (.tuple ((rangeD 0 n).map PyData.int)) :=
  evn_tupR1 hc hg hm hg2 hm2 ha (fun d e => by subst e; exact ⟨n, rfl, hn, rfl⟩) n1 n2
theorem ein_tup {E : List PyData → Prop} (h : EvN X ρ a fun d => ∃ ds, d = .tuple ds ∧ E ds) : EvIN X ρ tg a E := pi_imp (pi_tup h) fun σ H R ⟨F, O0, O1, s, k⟩ => ⟨F, O0, O1, s, fun v d H1 s1 e1 ⟨ds, hd, he⟩ r => by
  subst hd
  cases r with
  | tup h1 h2 h3 => exact ⟨_, rfl, ⟨_, SqT.of (msk_some h1).2⟩, k _ _ H1 s1 e1 he h2 (wk_tup h1 h3)⟩⟩
theorem ein_list {E : List PyData → Prop} (h : EvN X ρ a fun d => ∃ ds, d = .list ds ∧ E ds) : EvIN X ρ tg a E := pi_imp (pi_list h) fun σ H R ⟨F, O0, O1, s, k⟩ => ⟨F, O0, O1, s, fun v d H1 s1 e1 ⟨ds, hd, he⟩ r => by
  subst hd
  cases r with
  | lst h1 h2 h3 => exact ⟨_, rfl, ⟨_, SqL.of (msk_some h1).2⟩, k _ _ H1 s1 e1 he h2 (wk_list h1 h3)⟩⟩
end

/-! ## the law's own def -/
def spLaw (K : PySem.W.Frag) : Sp := fun vs H Q _ => ∃ (a : Addr) (ns : List Int), vs = [.ref a] ∧ SqL K H a (ns.map V.int) ∧ ns.length ≤ 63 ∧ ∀ H', Q (.bl true) H'
theorem law_mk {P : Program} {w : World} {K : PySem.W.Frag} {mg : Str → Option Value} {base : Heap} {x : Str} {st : Stmt} {f : Addr} {fd : FuncData} {N : List Str} {p : Str} {k : Nat} (A : DefAt K mg x st [p] f fd) (S : FnScope N [p] (defScope st))
    (body : ∀ sa ns, ns.length ≤ 63 → ∀ (cdv : Value) (A : Around) (outer : List Env) (s : Shared) (H : Hp) (E : XK), Room k (A.deeper (envOfC x (defScope st) s.heap.objs.size f cdv)) →
      HSs (cxOf CX0 P w K mg base N x (defScope st) f cdv A outer s H E).nox (defBody st) (.mt (scr K sa ns) :: List.replicate (N.length - 1) SD.un) { nx := fun _ => False, rt := fun d _ => d = .bool true }) : FnOk P w K mg base CX0 (k + 1) f fd [p] (spLaw K) := by
  refine A.fn.ok S (fun vs H Q E ⟨a, ns, e, _⟩ => by rw [e]; rfl) (fun cdv A outer s H vs Q E hr ⟨a, ns, e, hS, hn, k⟩ => ?_)
  refine ⟨_, body a ns hn cdv A outer s H E hr, H, [], [], ⟨Ex.refl _, ?_, fun b hb => (by cases hb), fun b hb => (by cases hb)⟩, fun _ _ _ _ z => z.elim, ?_, fun _ _ _ _ z => z.elim, fun _ _ _ _ z => z.elim⟩
  · rw [e]
    exact Sl.mt (m := scr K a ns) (as := []) ⟨rfl, (by
      have : msk ([] ++ []) H = H := by funext b; rfl
      rw [this]; exact hS), hn⟩ (fun a ha => by cases ha) (Sl.start (vs := []) (ds := []) .nil)
  · intro v d ρ' O1' σ' H' hd s' r'
    subst hd
    cases r'
    exact k H'

/-- while, by an invariant with a measure -/
theorem pt_any {X : Cx} {e : Expr} {A : Type} {T : A → TT} {C : A → Prop} (h : ∀ a, C a → PT X e (T a)) : PT X e (fun σ H Q => ∃ a, C a ∧ T a σ H Q) := ⟨fun pins s σ H Q I ⟨a, ha, q⟩ => (h a ha).run pins s σ H Q I q⟩
theorem hs_while {X : Cx} {ρ : List SD} {P : Po} {rest body : List Stmt} {c : Expr} {pos : Pos} (Iv : Nat → List SD → Prop) (Bk : List SD → Prop) (hp : PassesOwn (model X.prog X.w) X.A X.env X.xe) (m0 : Nat) (h0 : Iv m0 ρ)
    (hb : ∀ m ρ1, Iv m ρ1 → ∃ b, EvT X ρ1 c b ∧ (b = true → HSs X body ρ1 { nx := fun r => ∃ m', m' < m ∧ Iv m' r, rt := P.rt, bk := Bk, ct := fun r => ∃ m', m' < m ∧ Iv m' r }) ∧ (b = false → HSs X rest ρ1 P))
    (hk : ∀ ρ1, Bk ρ1 → HSs X rest ρ1 P) : HSs X (.While c body [] pos :: rest) ρ P := by
  refine hs_cons (M := fun r => HSs X rest r P) ?_ fun r z => z
  have cA : PT X c (fun σ H Q => ∃ a : List SD × Bool, EvT X a.1 c a.2 ∧ tT a.1 (Eq a.2) σ H Q) := pt_any fun a ha => ha
  have bA : PSs X body (fun D σ H => ∃ a : List SD × Po, HSs X body a.1 a.2 ∧ tS a.1 a.2 D σ H) := pss_any fun a ha => ha
  refine ps_imp (ps_while hp cA bA) fun D σ H ⟨F, O0, O1, s, nx, rt, bk, ct⟩ => ⟨fun m σ H => ∃ ρ1 O, Iv m ρ1 ∧ SA F O0 O ρ1 σ H, ⟨m0, ρ, O1, h0, s⟩, ?_⟩
  rintro m σ1 H1 ⟨ρ1, O, iv, s1⟩
  obtain ⟨b, hc, hT, hF⟩ := hb m ρ1 iv
  refine ⟨(ρ1, b), hc, F, O0, O, s1, fun b' H2 s2 e2 hbb => ?_⟩
  subst hbb
  cases b with
  | true =>
    rw [if_pos rfl]
    refine ⟨fun σ' H' => ∃ m', m' < m ∧ ∃ ρ1 O, Iv m' ρ1 ∧ SA F O0 O ρ1 σ' H', fun σ' H' h => h, (ρ1, _), hT rfl, F, O0, O, s2, fun ρ' O' σ' H' ⟨m', l, q⟩ s' => ⟨m', l, ρ', O', q, s'⟩, rt, fun ρ' O' σ' H' q s' => nx ρ' O' σ' H' (hk ρ' q) s', fun ρ' O' σ' H' ⟨m', l, q⟩ s' => ⟨m', l, ρ', O', q, s'⟩⟩
  | false =>
    rw [if_neg Bool.false_ne_true]
    exact nx ρ1 O σ1 H2 (hF rfl) s2
/-- max(i, j), the first open -/
theorem evn_max2 {X : Cx} {ρ : List SD} {a b : Expr} {p pos : Pos} {P R : Int → Prop} {j : Int} (hc : X.calm = true) (hg : Gl X "max") (hm : X.mg "max" = none) (ha : EvN X ρ a (II P)) (hb : Ev X ρ b (.int j)) (h : ∀ i, P i → R (if j > i then j else i)) (he : starEach [a, b] X.env = (false, eval a X.env) :: starEach [b] X.env := by rfl) (he2 : starEach [b] X.env = (false, eval b X.env) :: starEach [] X.env := by rfl) (hpl : (backTo pos (starEach [b] X.env)).any (·.1) = false := by rfl) :
    EvN X ρ (.Call (.Name "max" p) [a, b] [] pos) (II R) :=
  evn_callB (call_max2 hc) hg hm (by decide +kernel) (ean_cons ha (ea_cons hb ea_nil he2) he) (fun ds ⟨d, r, e, ⟨i, hd, hi⟩, e3⟩ => by
    subst e; subst hd; subst e3
    intro O H xs Q al r k
    obtain ⟨v, w, rfl, r1, r2⟩ := rpA2 r
    cases r1; cases r2
    exact ⟨i, j, rfl, k.here ⟨_, rfl, h i hi⟩ (.int _)⟩) (by decide) (by decide) he hpl
/-- any targets = a value that is open -/
theorem hs_asgN {X : Cx} {ρ : List SD} {P : Po} {rest : List Stmt} {tg e : Expr} {pos : Pos} {E : PyData → Prop} (he : EvN X ρ e E) (k : ∀ d, E d → ∃ ρ1 js, EvG X tg ρ d ρ1 js ∧ HSs X rest ρ1 P) (hs : swapsWithSole [tg] e pos.line X.env = pure false := by rfl) (hw : swappedStores [tg] e X.env = pure none := by rfl)
    (h1 : (assignEach [tg] X.env).map (·.2) = [assign tg X.env] := by rfl) : HSs X (.Assign [tg] e pos :: rest) ρ P := by
  have gA : PG X tg (fun v σ H Q => ∃ a : List SD × PyData × List SD × List Nat, EvG X tg a.1 a.2.1 a.2.2.1 a.2.2.2 ∧ tG a.1 a.2.1 a.2.2.1 a.2.2.2 v σ H Q) := pg_any fun a ha => ha
  exact hs_cons (M := fun r => HSs X rest r P) (ps_imp (ps_asg he gA hs hw h1) fun Dn σ H ⟨F, O0, O1, s, a, b, k', t⟩ => ⟨F, O0, O1, s, fun v d H' s' e' hd r => by
    obtain ⟨ρ1, js, g, hk⟩ := k d hd
    exact ⟨(ρ, d, ρ1, js), g, F, O0, O1, s', r, fun σ' _ s2 => a ρ1 O1 σ' H' hk s2⟩⟩) fun r z => z
/-- a comprehension within a comprehension: its block -/
def relS (scope sc : Scope) : Scope :=
  { scope with names := scope.names.map fun (n, k) => if (k == .free && sc.kind == .function && sc.names.lookup n == some .cell) then (n, .cell) else (n, k) }
theorem blkOk_in {N : List Str} {sc0 sc1 scope : Scope} {own : List (Str × Nat)} {env : Env} (he : env.scope = sc0) (h : blkC N (relS sc1 sc0) scope own = true) : BlkOk N (relabel sc1 env) scope own := by
  subst he
  exact blkOk_by h
/-- a, b = x, y -/
theorem swapped_of {ts vs : List Expr} {kt k2 : Nat} {tp pt2 : Pos} {env : Env} {names : List Str} (h1 : (!(ts.length == 2 || ts.length == 3) || vs.length != ts.length || env.blockKind != .function) = false)
    (h2 : (vs.any fun | .Starred .. => true | _ => false) = false)
    (h3 : (ts.filterMap fun | .Name id pos => if env.kindOf id == some .local && pos.line == (ts.head?.map (·.pos.line)).getD 0 then some id else none | _ => none) = names)
    (h4 : (names.length != ts.length || names.eraseDups.length != names.length) = false) (h5 : vs.all (foldedForSure 8) = false) (h6 : vs.all (constantsAlone 8) = false) :
    swappedStores [.Tuple ts kt tp] (.Tuple vs k2 pt2) env = pure (some names) := by
  subst h3
  unfold swappedStores
  simp only [h1, h2, h4, h5, h6, pure_bind, Bool.false_eq_true, if_false]
  refine (if_neg fun z => Bool.noConfusion (h2.symm.trans z)).trans ?_
  exact if_neg fun z => Bool.noConfusion (h4.symm.trans z)

/-! ## the town, new -/
def spB : Sp := fun vs H Q _ => vs = [] ∧ ∀ t r H', H t = none → H r = none → t ≠ r → Ex H H' → H' t = some (.dK (tnK 0 r)) → H' r = some (.dK []) → Q (.ref t) H'
def DefB (P : Program) (w : World) (K : PySem.W.Frag) (mg : Str → Option Value) (base : Heap) (k : Nat) (x : Str) : Prop :=
  ∃ f fd, FnOk P w K mg base CX0 k f fd [] spB ∧ mg x = some (.ref f) ∧ PySem.W.keepIn K (.ref f) = true ∧ Kw fd []
theorem merge_new {q : Addr} : mergeK [] [(kC, V.int 0), (kR, V.ref q)] = tnK 0 q := by
  have h : ¬ (kC = kR) := key_ne
  show putK (putK [] kC (V.int 0)) kR (V.ref q) = _
  have e1 : putK ([] : List (Key × V)) kC (V.int 0) = [(kC, V.int 0)] := rfl
  rw [e1, putK_new _ (by rw [valV_neg h]; rfl)]
  rfl
theorem pe_newTown {X : Cx} {pos p1 p2 p3 p4 : Pos} {j1 j2 j3 : Nat} : PE X (.Dict [some (.Constant (.str "count") j1 p1), some (.Constant (.str "rests") j2 p2)] [.Constant (.int 0) j3 p3, .Dict [] [] p4] pos)
    (fun σ H Q => ∀ t r H', H t = none → H r = none → t ≠ r → Ex H H' → H' t = some (.dK (tnK 0 r)) → H' r = some (.dK []) → Q (.ref t) H') :=
  pe_imp (pe_disp (pps_cons pe_str pe_int (pps_cons pe_str pe_dnewK pps_nil)) rfl rfl (by simp) (by show 2 ≤ 15; decide)) fun σ H Q k p hp => by
    show ∀ q, (upd H p (.dK [])) q = none → _
    intro q hq
    have ne : q ≠ p := fun e => by rw [e, upd_same] at hq; cases hq
    have hq' : H q = none := by rw [upd_ne ne] at hq; exact hq
    refine ⟨by rw [upd_ne (Ne.symm ne), upd_same], [(kC, .int 0), (kR, .ref q)], rfl, by show 2 ≤ 15; decide, ?_⟩
    rw [merge_new]
    refine k p q _ hp hq' (Ne.symm ne) (fun b o hb => ?_) upd_same (by rw [upd_ne ne, upd_same])
    rw [upd_ne (ne_of_none hb hp), upd_ne (ne_of_none hb hq'), upd_ne (ne_of_none hb hp)]
    exact hb
section
variable {P : Program} {w : World} {K : PySem.W.Frag} {mg : Str → Option Value} {base : Heap}
theorem defB_mk {x : Str} {st : Stmt} {f : Addr} {fd : FuncData} {k : Nat} {pos p0 p1 p2 p3 p4 : Pos} {j1 j2 j3 : Nat} (A : DefAt K mg x st [] f fd) (S : FnScope [] [] (defScope st))
    (hb : ∃ pre, defBody st = pre ++ [.Return (some (.Dict [some (.Constant (.str "count") j1 p1), some (.Constant (.str "rests") j2 p2)] [.Constant (.int 0) j3 p3, .Dict [] [] p4] pos)) p0] ∧ pre = []) : DefB P w K mg base (k + 1) x := by
  obtain ⟨pre, hb, rfl⟩ := hb
  refine ⟨f, fd, ?_, A.at_, A.fn.kp, A.kw⟩
  refine A.fn.ok S (fun vs H Q E ⟨e, _⟩ => by rw [e]; rfl) (fun cdv A outer s H vs Q E hr ⟨e, h⟩ => ?_)
  rw [hb]
  exact ⟨_, pss_one (ps_ret pe_newTown), h⟩
variable {X : Cx} {ρ : List SD} {Po : Po} {rest : List Stmt} {x y : Str} {pos p spos pos' : Pos} {k n : Nat} {sa : Addr} {ns : List Int}
/-- town = begun() -/
theorem hs_begun (F : DefB X.prog X.w X.K X.mg X.base k y) (hr : Room n X.A) (hg : Gl X y) (hN : X.N.Nodup) (hi : X.N[1]? = some x) (hx : Loc X.env.scope x) (kk : ∀ t r, HSs X rest (.mt (scr X.K sa ns) :: .mt (twn t r) :: ρ) Po) (hkn : k ≤ n := by decide) (hdb : (y == ("__debug__" : Str)) = false := by decide)
    (hs : swapsWith (.Call (.Name y p) [] [] pos) (some (.Name x pos')) spos.line X.env = pure false := by rfl)
    (hf : X.fn x = true ∨ X.env.scope.names.lookup x = some .local := by first | exact .inl rfl | exact .inr rfl | assumption) : HSs X (.Assign [.Name x pos'] (.Call (.Name y p) [] [] pos) spos :: rest) (.mt (scr X.K sa ns) :: .un :: ρ) Po := by
  obtain ⟨f, fd, F1, F2, F3, F4⟩ := F
  refine hs_cons (M := fun r => ∃ t r', r = .mt (scr X.K sa ns) :: .mt (twn t r') :: ρ) ?_ fun r ⟨t, r', e⟩ => by subst e; exact kk t r'
  refine ps_imp (ps_set (i := 1) hN hi hx (pe_call0 F1 (hr.mono hkn) hg F2 F3 F4.bd .nil pass0 hdb) hs hf) fun Dn σ H ⟨F, O0, O1, s, nx, rt, bk, ct⟩ => ?_
  show spB ([] ++ []) H (fun v H' => gName 1 v σ H' Dn.nx) E0
  refine ⟨rfl, fun t r H' h1 h2 h3 h4 h5 h6 => ?_⟩
  have sl := s.sl
  cases sl with
  | mt q1 q2 q3 =>
    rename_i bs v0 _h0
    cases q3 with
    | un q4 =>
      rename_i σ2 x1
      have hF : ∀ a, H a = none → F a = none := fun a ha => by
        cases w : F a with
        | none => rfl
        | some o => rw [s.fr a o w] at ha; cases ha
      have nb : ∀ a, H a = none → a ∉ (scr X.K sa ns).fp ++ bs ++ O0 := fun a ha z => s.al a z ha
      have hO : (scr X.K sa ns).fp ++ ((twn t r).fp ++ bs) = t :: r :: bs := rfl
      have hm : Ex (msk ((scr X.K sa ns).fp ++ bs ++ O0) H) (msk (t :: r :: bs ++ O0) H') := fun a o ha => by
        obtain ⟨z1, z2⟩ := msk_some ha
        rw [msk_out fun z => ?_]
        · exact h4 a o z2
        · rcases List.mem_cons.mp z with z | z
          · rw [z, h1] at z2; cases z2
          · rcases List.mem_cons.mp z with z | z
            · rw [z, h2] at z2; cases z2
            · exact z1 z
      have ko : ∀ a ∈ bs, H' a = H a := fun a ha => by
        cases w : H a with
        | none => exact absurd w (s.sl.al a (List.mem_append_right _ ha))
        | some o => exact h4 a o w
      refine nx _ (t :: r :: bs) _ H' ⟨t, r, rfl⟩ ⟨s.fr.trans h4, ?_, fun a ha => ?_, s.al0.ex h4⟩
      · exact Sl.mt (m := scr X.K sa ns) (as := (twn t r).fp ++ bs) ((scr X.K sa ns).mono q1 hm fun b hb => by cases hb) (fun a ha => by cases ha)
          (Sl.mt (m := twn t r) ⟨rfl, h3, 0, ([] : List (Key × V)), h5, h6, List.nodup_nil, (by intro k hk; simp at hk), (by intro k hk; simp at hk)⟩ (fun a ha z => by
            rcases List.mem_cons.mp ha with e | e
            · rw [e] at z; exact nb t h1 (List.mem_append_left _ z)
            · rw [List.mem_singleton.mp e] at z; exact nb r h2 (List.mem_append_left _ z)) (q4.mono hm ko))
      · rcases List.mem_cons.mp ha with e | e
        · rw [e]; exact ⟨hF t h1, fun z => nb t h1 (List.mem_append_right _ z)⟩
        · rcases List.mem_cons.mp e with e | e
          · rw [e]; exact ⟨hF r h2, fun z => nb r h2 (List.mem_append_right _ z)⟩
          · exact s.new a e
end
end PL

namespace Mus
open PySem PySem.Spec PyProof.Rows L2 PL
/-! ## what the laws draw -/
def c_law_is : Ct := ⟨Bool × Bool, fun a => [.bool a.1, .bool a.2], fun _ => True, fun a => Eq (.bool (a.1 == a.2))⟩
def c_law_draw : Ct := ⟨Int, fun m => [.int m], fun m => 1 ≤ m ∧ m ≤ 1000, fun m => II fun i => 0 ≤ i ∧ i < m⟩
structure Plan.Dr (p : Plan) : Prop where
  h2 : 2 ≤ p.houses.length
  h4 : p.houses.length ≤ 4
  hs : ∀ x ∈ p.houses, 5 ≤ x ∧ x ≤ 18
  o1 : 1 ≤ p.objects.length
  o3 : p.objects.length ≤ 3
  os : ∀ o ∈ p.objects, (0 ≤ o.home ∧ o.home < p.houses.length) ∧ (1 ≤ o.value ∧ o.value ≤ 12) ∧ (0 ≤ o.rest ∧ o.rest ≤ 4) ∧ (4 ≤ o.light ∧ o.light ≤ 21)
  ws : ∀ w ∈ p.wishes, (0 ≤ w.house ∧ w.house < p.houses.length) ∧ (0 ≤ w.item ∧ w.item < p.objects.length) ∧ (p.obj w.item).home ≠ w.house ∧ (0 ≤ w.first ∧ w.first ≤ 23) ∧ w.first ≤ w.last ∧ w.last ≤ w.first + 7
theorem Plan.Dr.ok {p : Plan} (h : p.Dr) (h8 : p.wishes.length ≤ 8) : p.Ok := by
  obtain ⟨a, b, c, d, e, f, g⟩ := h
  refine ⟨by omega, b, fun x hx => ?_, d, by omega, fun o ho => ?_, h8, fun w hw => ?_⟩
  · have := c x hx; omega
  · obtain ⟨⟨q1, q2⟩, q3, q4, q5⟩ := f o ho
    exact ⟨q1, q2, by omega, by omega, by omega, by omega, by omega, by omega⟩
  · obtain ⟨⟨q1, q2⟩, ⟨q3, q4⟩, q5, q6, q7, q8⟩ := g w hw
    exact ⟨q1, q2, q3, q4, q5, q6.1, q7, by omega⟩
def c_law_plan : Ct := ⟨Int, fun m => [.int m], fun m => 0 ≤ m ∧ m ≤ 8, fun m d => ∃ p : Plan, d = eP p ∧ p.Dr ∧ (p.wishes.length : Int) ≤ m⟩
def c_law_some : Ct := ⟨Nat, fun n => [.int n], fun n => n ≤ 100, fun n d => ∃ s : List Int, d = eT s ∧ (∀ x ∈ s, 0 ≤ x ∧ x < n) ∧ asc s = true⟩
section
variable {X : Cx} {ρ : List SD} {e : Expr} {x x1 x2 : Str} {p p1 p2 pos : Pos} {k n : Nat} {ps : List Str} {sa t r : Addr} {ns : List Int} {Q R : Int → Prop}
theorem evn_draw (F : DefT X.prog X.w X.K X.mg X.base k x ps c_law_draw) (i j : Nat) (hr : Room n X.A) (hg : Gl X x) (ha : EvN X ρ e (II Q)) (hQ : ∀ m, Q m → 1 ≤ m ∧ m ≤ 1000 ∧ ∀ i, 0 ≤ i → i < m → R i) (hs : ρ[i]? = some (.mt (scr X.K sa ns)) := by rfl) (ht : ρ[j]? = some (.mt (twn t r)) := by rfl) (hkn : k ≤ n := by decide)
    (hi : X.N[i]? = some x1 := by rfl) (hv : Vis X.env.scope x1 := by first | exact Or.inl rfl | exact Or.inr (Or.inl rfl) | exact Or.inr (Or.inr rfl)) (hj : X.N[j]? = some x2 := by rfl) (hv2 : Vis X.env.scope x2 := by first | exact Or.inl rfl | exact Or.inr (Or.inl rfl) | exact Or.inr (Or.inr rfl))
    (h1 : (x1 == ("__debug__" : Str)) = false := by decide) (h2 : (x1 == ("__classdict__" : Str)) = false := by decide) (h3 : (x2 == ("__debug__" : Str)) = false := by decide) (h4 : (x2 == ("__classdict__" : Str)) = false := by decide)
    (hdb : (x == ("__debug__" : Str)) = false := by decide) (he3 : starEach [e] X.env = (false, eval e X.env) :: starEach [] X.env := by rfl) (he : starEach (.Name x1 p1 :: .Name x2 p2 :: [e]) X.env = (false, eval (.Name x1 p1) X.env) :: starEach (.Name x2 p2 :: [e]) X.env := by rfl) (he2 : starEach (.Name x2 p2 :: [e]) X.env = (false, eval (.Name x2 p2) X.env) :: starEach [e] X.env := by rfl)
    (hpl : (backTo pos (starEach (.Name x2 p2 :: [e]) X.env)).any (·.1) = false := by rfl) : EvN X ρ (.Call (.Name x p) (.Name x1 p1 :: .Name x2 p2 :: [e]) [] pos) (II R) :=
  evn_callT F i j hr hg (ean_cons ha ea_nil he3) (fun ds ⟨d, r, e1, ⟨m, e2, hm⟩, e3⟩ => by
    subst e1; subst e2; subst e3
    obtain ⟨q1, q2, q3⟩ := hQ m hm
    exact ⟨m, rfl, ⟨q1, q2⟩, fun d ⟨i, hd, h1, h2⟩ => ⟨i, hd, q3 i h1 h2⟩⟩) hs ht hkn hi hv hj hv2 h1 h2 h3 h4 hdb he he2 hpl
theorem evn_drawI {m : Int} (F : DefT X.prog X.w X.K X.mg X.base k x ps c_law_draw) (i j : Nat) (hr : Room n X.A) (hg : Gl X x) (ha : Ev X ρ e (.int m)) (hm1 : 1 ≤ m) (hm2 : m ≤ 1000) (hs : ρ[i]? = some (.mt (scr X.K sa ns)) := by rfl) (ht : ρ[j]? = some (.mt (twn t r)) := by rfl) (hkn : k ≤ n := by decide)
    (hi : X.N[i]? = some x1 := by rfl) (hv : Vis X.env.scope x1 := by first | exact Or.inl rfl | exact Or.inr (Or.inl rfl) | exact Or.inr (Or.inr rfl)) (hj : X.N[j]? = some x2 := by rfl) (hv2 : Vis X.env.scope x2 := by first | exact Or.inl rfl | exact Or.inr (Or.inl rfl) | exact Or.inr (Or.inr rfl))
    (h1 : (x1 == ("__debug__" : Str)) = false := by decide) (h2 : (x1 == ("__classdict__" : Str)) = false := by decide) (h3 : (x2 == ("__debug__" : Str)) = false := by decide) (h4 : (x2 == ("__classdict__" : Str)) = false := by decide)
    (hdb : (x == ("__debug__" : Str)) = false := by decide) (he3 : starEach [e] X.env = (false, eval e X.env) :: starEach [] X.env := by rfl) (he : starEach (.Name x1 p1 :: .Name x2 p2 :: [e]) X.env = (false, eval (.Name x1 p1) X.env) :: starEach (.Name x2 p2 :: [e]) X.env := by rfl) (he2 : starEach (.Name x2 p2 :: [e]) X.env = (false, eval (.Name x2 p2) X.env) :: starEach [e] X.env := by rfl)
    (hpl : (backTo pos (starEach (.Name x2 p2 :: [e]) X.env)).any (·.1) = false := by rfl) : EvN X ρ (.Call (.Name x p) (.Name x1 p1 :: .Name x2 p2 :: [e]) [] pos) (II fun i => 0 ≤ i ∧ i < m) :=
  evn_draw (Q := (· = m)) F i j hr hg (evn_int ha rfl) (fun m' e => by subst e; exact ⟨hm1, hm2, fun i a b => ⟨a, b⟩⟩) hs ht hkn hi hv hj hv2 h1 h2 h3 h4 hdb he3 he he2 hpl
end
theorem asc_iff : ∀ l : List Int, asc l = true ↔ l.Pairwise (· < ·)
  | [] => by simp [asc]
  | [a] => by simp [asc]
  | a :: b :: l => by
    have ih := asc_iff (b :: l)
    simp only [asc, Bool.and_eq_true, decide_eq_true_eq]
    rw [ih, List.pairwise_cons (a := a)]
    constructor
    · rintro ⟨h1, h2⟩
      refine ⟨fun y hy => ?_, h2⟩
      rcases List.mem_cons.mp hy with e | e
      · rw [e]; exact h1
      · exact Int.lt_trans h1 ((List.pairwise_cons.mp h2).1 y e)
    · rintro ⟨h1, h2⟩
      exact ⟨h1 b List.mem_cons_self, h2⟩
theorem asc_range (lo : Int) (n : Nat) : (rangeD lo n).Pairwise (· < ·) := by
  unfold rangeD
  rw [List.pairwise_map]
  exact List.pairwise_lt_range.imp fun h => by omega
theorem asc_sub {s l : List Int} (h : s.Sublist l) (hl : l.Pairwise (· < ·)) : asc s = true := (asc_iff s).mpr (hl.sublist h)
theorem put_far {m h j : Int} (h2 : 2 ≤ m) (h4 : m ≤ 4) (h0 : 0 ≤ h) (hm : h < m) (j0 : 0 ≤ j) (jm : j < m - 1) : 0 ≤ (h + 1 + j) % m ∧ (h + 1 + j) % m < m ∧ h ≠ (h + 1 + j) % m := by
  rcases (by omega : m = 2 ∨ m = 3 ∨ m = 4) with e | e | e <;> subst e <;> omega
end Mus

namespace Mus
open PySem PySem.Spec PyProof.Rows L2 PL
/-! ## the laws' own reasons -/
theorem rangeD_succ (n : Nat) : rangeD 0 (n + 1) = rangeD 0 n ++ [(n : Int)] := by
  unfold rangeD
  rw [List.range_succ, List.map_append]
  simp
theorem rangeD_get {n i : Nat} {x : Int} (h : (rangeD 0 n)[i]? = some x) : x = i ∧ i < n := by
  have hl := (List.getElem?_eq_some_iff.mp h).1
  rw [rangeD_len] at hl
  unfold rangeD at h
  rw [List.getElem?_map, List.getElem?_range hl] at h
  rw [Option.map_some] at h
  have := Option.some.inj h
  exact ⟨by omega, hl⟩
theorem filter_one {α β : Type} (g : α → Bool) (f : α → β) (x : α) : (([x].filter g).map f) = if g x = true then [f x] else [] := by
  cases h : g x <;> simp [h]
def awks (p : Plan) (s : List Int) (i : Int) : List Int := (s.filter fun x => decide ((p.wish x).item = i)).map fun x => (p.wish x).last - (p.wish x).first + 1
def aL (p : Plan) (s : List Int) (n : Nat) : List Reason := ((rangeD 0 n).filter fun i => decide ((p.obj i).light < (awks p s i).sum)).map Reason.light
theorem aL_succ (p : Plan) (s : List Int) (n : Nat) : aL p s (n + 1) = aL p s n ++ if decide ((p.obj (n : Int)).light < (awks p s (n : Int)).sum) = true then [Reason.light n] else [] := by
  unfold aL
  rw [rangeD_succ, List.filter_append, List.map_append]
  rw [filter_one]
theorem aL_len (p : Plan) (s : List Int) (n : Nat) : (aL p s n).length ≤ n := by
  unfold aL
  rw [List.length_map]
  refine Nat.le_trans (List.length_filter_le ..) ?_
  rw [rangeD_len]; exact Nat.le_refl _
def aPair (p : Plan) (x y : Int) : Bool := decide (x < y) && decide ((p.wish x).item = (p.wish y).item)
def aNear (p : Plan) (x y : Int) : Bool := decide ((p.wish y).first ≤ (p.wish x).last + (p.obj (p.wish x).item).rest) && decide ((p.wish x).first ≤ (p.wish y).last + (p.obj (p.wish x).item).rest)
def aRow (p : Plan) (x : Int) (l : List Int) : List Reason := (l.filter fun y => aPair p x y && aNear p x y).map fun y => Reason.rest x y
theorem aRow_succ (p : Plan) (x : Int) {l : List Int} {j : Nat} {y : Int} (h : l[j]? = some y) : aRow p x (l.take (j + 1)) = aRow p x (l.take j) ++ if (aPair p x y && aNear p x y) = true then [Reason.rest x y] else [] := filter_step h
theorem aRow_len (p : Plan) (x : Int) (l : List Int) : (aRow p x l).length ≤ l.length := by
  unfold aRow
  rw [List.length_map]
  exact List.length_filter_le ..
def aR (p : Plan) (s l : List Int) : List Reason := l.flatMap fun x => aRow p x s
theorem aR_succ (p : Plan) (s : List Int) {l : List Int} {j : Nat} {x : Int} (h : l[j]? = some x) : aR p s (l.take (j + 1)) = aR p s (l.take j) ++ aRow p x s := flatMap_step h
theorem flatMap_le {α β : Type} (f : α → List β) (c : Nat) (h : ∀ x, (f x).length ≤ c) : ∀ l : List α, (l.flatMap f).length ≤ l.length * c
  | [] => by simp
  | a :: l => by
    have h1 := flatMap_le f c h l
    have h2 := h a
    rw [List.flatMap_cons, List.length_append, List.length_cons, Nat.succ_mul]
    omega
theorem aR_len (p : Plan) (s l : List Int) : (aR p s l).length ≤ l.length * s.length := flatMap_le _ _ (fun x => aRow_len p x s) l
def aHere (p : Plan) (s : List Int) (h : Int) : List Wish := (s.filter fun x => decide ((p.wish x).house = h)).map p.wish
def aWorth (p : Plan) (ws : List Wish) (k : Int) : List Int := (ws.filter fun w => decide (w.first ≤ k) && decide (k ≤ w.last)).map fun w => (p.obj w.item).value
def Plan.lim (p : Plan) (h : Int) : Int := p.houses.getD h.toNat 0
def aCol (p : Plan) (s : List Int) (h : Int) (n : Nat) : List Reason := ((rangeD 0 n).filter fun k => decide (p.lim h < (aWorth p (aHere p s h) k).sum)).map fun k => Reason.value h k
theorem aCol_succ (p : Plan) (s : List Int) (h : Int) (n : Nat) : aCol p s h (n + 1) = aCol p s h n ++ if decide (p.lim h < (aWorth p (aHere p s h) n).sum) = true then [Reason.value h n] else [] := by
  unfold aCol
  rw [rangeD_succ, List.filter_append, List.map_append]
  rw [filter_one]
theorem aCol_len (p : Plan) (s : List Int) (h : Int) (n : Nat) : (aCol p s h n).length ≤ n := by
  unfold aCol
  rw [List.length_map]
  refine Nat.le_trans (List.length_filter_le ..) ?_
  rw [rangeD_len]; exact Nat.le_refl _
def aV (p : Plan) (s : List Int) (n : Nat) : List Reason := (rangeD 0 n).flatMap fun h => aCol p s h 61
theorem aV_succ (p : Plan) (s : List Int) (n : Nat) : aV p s (n + 1) = aV p s n ++ aCol p s n 61 := by
  unfold aV
  rw [rangeD_succ, List.flatMap_append]
  simp
theorem aV_len (p : Plan) (s : List Int) (n : Nat) : (aV p s n).length ≤ n * 61 := by
  have := flatMap_le (fun h => aCol p s h 61) 61 (fun x => aCol_len p s x 61) (rangeD 0 n)
  rw [rangeD_len] at this
  exact this
def against (p : Plan) (s : List Int) : List Reason := aL p s p.objects.length ++ aR p s s ++ aV p s p.houses.length
def c_law_against : Ct := ⟨Plan × List Int, fun a => [eP a.1, eT a.2], fun a => a.1.Ok ∧ SomeOk a.1 a.2, fun a => Eq (.list ((against a.1 a.2).map eR))⟩
end Mus

namespace Mus
open PySem PySem.Spec PyProof.Rows L2 PL
theorem en_opt {α : Type} [DecidableEq α] {e : α → PyData} (h : En e 1) (hn : ∀ a, PyData.eqv (e a) .none = false ∧ PyData.eqv .none (e a) = false) : En (eOpt e) 1 := ⟨fun a => by
    cases a with
    | none => exact shp_none.mono (by decide)
    | some a => exact h.shp a, fun a b => by
    cases a with
    | none => cases b with
      | none => simp [eOpt, PyData.eqv]
      | some b => simp only [eOpt]; rw [(hn b).2]; simp
    | some a => cases b with
      | none => simp only [eOpt]; rw [(hn a).1]; simp
      | some b => simp only [eOpt]; rw [h.eq]; simp⟩
theorem en_optR : En (eOpt eR) 1 := en_opt en_R fun a => by cases a <;> simp [eR, PyData.eqv]
theorem asc_split {s : List Int} (h : asc s = true) {i : Nat} {x : Int} (hx : s[i]? = some x) (q : Int → Bool) : (s.filter fun y => decide (x < y) && q y) = (s.drop (i + 1)).filter q := by
  have hp := (asc_iff s).mp h
  have e : s = s.take i ++ x :: s.drop (i + 1) := by
    have hl := (List.getElem?_eq_some_iff.mp hx).1
    have e2 : s[i] = x := (List.getElem?_eq_some_iff.mp hx).2
    conv => lhs; rw [← List.take_append_drop i s, List.drop_eq_getElem_cons hl, e2]
  generalize s.take i = a at e
  generalize s.drop (i + 1) = b at e ⊢
  subst e
  rw [List.pairwise_append] at hp
  obtain ⟨h1, h2, h3⟩ := hp
  obtain ⟨h4, h5⟩ := List.pairwise_cons.mp h2
  rw [List.filter_append, List.filter_cons_of_neg (by simp)]
  have e1 : a.filter (fun y => decide (x < y) && q y) = [] := by
    rw [List.filter_eq_nil_iff]
    intro y hy
    have := h3 y hy x List.mem_cons_self
    simp; intro; omega
  rw [e1, List.nil_append]
  refine List.filter_congr fun y hy => ?_
  rw [decide_eq_true (h4 y hy), Bool.true_and]
theorem range_drop (s : List Int) (i : Nat) : (rangeD ((i : Int) + 1) ((s.length : Int) - ((i : Int) + 1)).toNat).map (atZ s) = s.drop (i + 1) := by
  apply List.ext_getElem?
  intro k
  unfold rangeD atZ
  rw [List.map_map, List.getElem?_map, List.getElem?_drop]
  by_cases hk : k < ((s.length : Int) - ((i : Int) + 1)).toNat
  · rw [List.getElem?_range hk, Option.map_some]
    have e1 : (((i : Int) + 1) + (k : Int)).toNat = i + 1 + k := by omega
    have hl : i + 1 + k < s.length := by omega
    simp only [Function.comp]
    rw [e1, List.getD, List.getElem?_eq_getElem hl]
    rfl
  · rw [List.getElem?_eq_none (by rw [List.length_range]; omega), List.getElem?_eq_none (by omega)]
    rfl
theorem filter_map' {α β : Type} (f : α → β) (g : β → Bool) : ∀ l : List α, (l.map f).filter g = (l.filter (g ∘ f)).map f := fun l => List.filter_map
theorem wAt_named (p : Plan) (s : List Int) {t : Int} (h0 : 0 ≤ t) (h1 : t < s.length) : wAt (named p s) t = p.wish (atZ s t) := by
  have hl : t.toNat < s.length := by omega
  unfold wAt named atZ
  rw [List.getD, List.getElem?_map, List.getElem?_eq_getElem hl, List.getD, List.getElem?_eq_getElem hl]
  rfl
theorem near_not_rest (p : Plan) (x y : Int) : aNear p x y = !doRest (p.wish x) (p.wish y) (p.obj (p.wish x).item).rest := by
  unfold aNear doRest
  rw [Bool.eq_iff_iff]
  simp only [Bool.and_eq_true, decide_eq_true_eq, Bool.not_eq_true', Bool.or_eq_false_iff, decide_eq_false_iff_not]
  omega
theorem row_eq {p : Plan} {s : List Int} (h : asc s = true) {i : Nat} {x : Int} (hx : s[i]? = some x) : aRow p x s = (tiredRow p (named p s) (p.wish x) i).map fun t => Reason.rest x (atZ s t) := by
  unfold aRow tiredRow
  have e1 : (s.filter fun y => aPair p x y && aNear p x y) = (s.drop (i + 1)).filter fun y => tiredB p (p.wish x) (p.wish y) := by
    rw [← asc_split h hx]
    refine List.filter_congr fun y _ => ?_
    unfold aPair tiredB
    rw [near_not_rest, Bool.and_assoc]
  have hl : (named p s).length = s.length := by unfold named; rw [List.length_map]
  rw [e1, ← range_drop s i, filter_map', List.map_map, hl]
  refine congrArg (List.map _) (List.filter_congr fun t ht => ?_)
  have := rangeD_mem.mp ht
  rw [Function.comp, wAt_named p s (by omega) (by omega)]
theorem flat_zip {α β : Type} (l : List α) (f : α → List β) (g : α × Nat → List β) (k : Nat) (h : ∀ i x, l[i]? = some x → f x = g (x, k + i)) : l.flatMap f = (l.zipIdx k).flatMap g := by
  induction l generalizing k with
  | nil => rfl
  | cons a l ih =>
    rw [List.zipIdx_cons, List.flatMap_cons, List.flatMap_cons, h 0 a rfl, ih (k + 1) fun i x hx => by rw [h (i + 1) x (by simpa using hx)]; congr 2; omega]
    rfl
theorem rest_eq {p : Plan} {s : List Int} (h : asc s = true) : aR p s s = (tired p (named p s)).map fun x => Reason.rest (atZ s x.1) (atZ s x.2) := by
  unfold aR tired
  rw [List.map_flatMap]
  unfold named
  rw [List.zipIdx_map, List.flatMap_map]
  refine flat_zip s _ _ 0 fun i x hx => ?_
  rw [row_eq h hx]
  have e : atZ s (i : Int) = x := by
    unfold atZ
    rw [Int.toNat_natCast, List.getD, hx]; rfl
  simp only [Nat.zero_add, List.map_map]
  unfold named
  refine List.map_congr_left fun t _ => ?_
  simp only [Function.comp, Prod.map]
  show Reason.rest x (atZ s t) = Reason.rest (atZ s (i : Int)) (atZ s t)
  rw [e]
theorem light_eq (p : Plan) (s : List Int) : aL p s p.objects.length = (bleached p (named p s)).map Reason.light := by
  unfold aL bleached
  refine congrArg _ (List.filter_congr fun i _ => ?_)
  unfold weeksOf awks named
  rw [filter_map', List.map_map]
  rfl
theorem worth_eq (p : Plan) (s : List Int) (h k : Int) : (aWorth p (aHere p s h) k).sum = valueAt p (named p s) h k := by
  unfold aWorth aHere valueAt thereIn named
  rw [filter_map', filter_map', List.filter_filter]
  refine congrArg (fun l => (List.map (fun w => (p.obj w.item).value) (List.map p.wish l)).sum) (List.filter_congr fun x _ => ?_)
  simp only [Function.comp]
  rw [Bool.and_comm]
theorem flatMap_cg {α β : Type} {f g : α → List β} : ∀ {l : List α}, (∀ x ∈ l, f x = g x) → l.flatMap f = l.flatMap g
  | [], _ => rfl
  | a :: l, h => by rw [List.flatMap_cons, List.flatMap_cons, h a List.mem_cons_self, flatMap_cg fun x hx => h x (List.mem_cons_of_mem _ hx)]
theorem value_eq (p : Plan) (s : List Int) : aV p s p.houses.length = (crowded p (named p s)).map fun x => Reason.value x.1 x.2 := by
  unfold aV crowded
  rw [List.map_flatMap]
  have e : rangeD 0 p.houses.length = p.houses.zipIdx.map fun x => (x.2 : Int) := by
    unfold rangeD
    apply List.ext_getElem?
    intro k
    rw [List.getElem?_map, List.getElem?_map, List.getElem?_zipIdx]
    by_cases hk : k < p.houses.length
    · rw [List.getElem?_range hk, List.getElem?_eq_getElem hk]; simp
    · rw [List.getElem?_eq_none (by rw [List.length_range]; omega), List.getElem?_eq_none (by omega)]; rfl
  rw [e, List.flatMap_map]
  refine flatMap_cg fun x hx => ?_
  obtain ⟨i, hi⟩ := List.getElem?_of_mem hx
  obtain ⟨h1, h2⟩ := zipIdx_get hi
  unfold aCol crowdRow
  rw [List.map_map]
  have el : p.lim (x.2 : Int) = x.1 := by
    unfold Plan.lim
    rw [h2, Int.toNat_natCast, List.getD, h1]; rfl
  rw [el]
  refine congrArg (List.map _) (List.filter_congr fun k _ => ?_)
  rw [worth_eq]
theorem against_eq {p : Plan} {s : List Int} (hp : p.Ok) (hs : SomeOk p s) : against p s = reasonsOf p s := by
  unfold against reasonsOf
  rw [light_eq, rest_eq hs.as, value_eq]
/-! good: no week above its limit; it is enough to look at first weeks -/
theorem sum_le {α : Type} (f : α → Int) : ∀ (l l' : List α), l.Sublist l' → (∀ x ∈ l', 0 ≤ f x) → (l.map f).sum ≤ (l'.map f).sum := by
  intro l l' h
  induction h with
  | slnil => intro _; exact Int.le_refl _
  | cons a h ih => intro k; rw [List.map_cons, List.sum_cons]; have := ih fun x hx => k x (List.mem_cons_of_mem _ hx); have := k a List.mem_cons_self; omega
  | cons_cons a h ih => intro k; rw [List.map_cons, List.map_cons, List.sum_cons, List.sum_cons]; have := ih fun x hx => k x (List.mem_cons_of_mem _ hx); omega
theorem filter_sub {α : Type} {p q : α → Bool} {l : List α} (h : ∀ x ∈ l, p x = true → q x = true) : (l.filter p).Sublist (l.filter q) := by
  have e : l.filter p = (l.filter q).filter p := by
    rw [List.filter_filter]
    refine List.filter_congr fun x hx => ?_
    cases c : p x with
    | false => simp
    | true => simp [h x hx c]
  rw [e]
  exact List.filter_sublist
theorem max_first : ∀ l : List Wish, l ≠ [] → ∃ w ∈ l, ∀ v ∈ l, v.first ≤ w.first
  | [], h => absurd rfl h
  | [a], _ => ⟨a, List.mem_cons_self, fun v hv => by rw [List.mem_singleton.mp hv]; exact Int.le_refl _⟩
  | a :: b :: l, _ => by
    obtain ⟨w, hw, k⟩ := max_first (b :: l) (by simp)
    by_cases c : a.first ≤ w.first
    · refine ⟨w, List.mem_cons_of_mem _ hw, fun v hv => ?_⟩
      rcases List.mem_cons.mp hv with e | e
      · rw [e]; exact c
      · exact k v e
    · refine ⟨a, List.mem_cons_self, fun v hv => ?_⟩
      rcases List.mem_cons.mp hv with e | e
      · rw [e]; exact Int.le_refl _
      · have := k v e; omega
structure GoodWs (p : Plan) (ws : List Wish) : Prop where
  it : ∀ w ∈ ws, 0 ≤ w.item ∧ w.item < p.objects.length
  wk : ∀ w ∈ ws, 0 ≤ w.first ∧ w.first ≤ w.last ∧ w.last ≤ 60
theorem value_first {p : Plan} {ws : List Wish} (hp : p.Ok) (hw : GoodWs p ws) {h k L : Int} (hL : 0 ≤ L) (hv : L < valueAt p ws h k) : ∃ w ∈ ws, w.house = h ∧ L < valueAt p ws h w.first := by
  have hne : thereIn ws h k ≠ [] := fun e => by
    unfold valueAt at hv
    rw [e] at hv
    simp at hv; omega
  obtain ⟨w, hm, hx⟩ := max_first _ hne
  have hm' := List.mem_filter.mp hm
  simp only [Bool.and_eq_true, decide_eq_true_eq] at hm'
  refine ⟨w, hm'.1, hm'.2.1, Int.lt_of_lt_of_le hv ?_⟩
  unfold valueAt
  refine sum_le _ _ _ (filter_sub fun v hv h' => ?_) fun v hv => ?_
  · have hv2 := hx v (List.mem_filter.mpr ⟨hv, h'⟩)
    simp only [Bool.and_eq_true, decide_eq_true_eq] at h' ⊢
    exact ⟨h'.1, hv2, by omega⟩
  · have := hw.it v (List.mem_filter.mp hv).1
    have := (hp.os _ (p.obj_mem this.1 this.2)).v0
    omega
theorem crowd_bad {p : Plan} {ws : List Wish} (hp : p.Ok) (hw : GoodWs p ws) {h L : Int} (hL : 0 ≤ L) : houseBad p ws L h = !(crowdRow p ws L h).isEmpty := by
  rw [Bool.eq_iff_iff]
  unfold houseBad crowdRow
  rw [List.any_eq_true]
  constructor
  · rintro ⟨k, hk, hv⟩
    obtain ⟨w, hw', rfl⟩ := List.mem_map.mp hk
    have h1 := hw.wk w (List.mem_filter.mp hw').1
    rw [Bool.not_eq_true', ← Bool.not_eq_true, List.isEmpty_iff]
    intro e
    rw [List.filter_eq_nil_iff] at e
    exact e w.first (rangeD_mem.mpr (by omega)) hv
  · intro hne
    rw [Bool.not_eq_true', ← Bool.not_eq_true, List.isEmpty_iff] at hne
    obtain ⟨k, hk⟩ := List.exists_mem_of_ne_nil _ hne
    have hk' := List.mem_filter.mp hk
    obtain ⟨w, w1, w2, w3⟩ := value_first hp hw hL (of_decide_eq_true hk'.2)
    exact ⟨w.first, List.mem_map.mpr ⟨w, List.mem_filter.mpr ⟨w1, decide_eq_true w2⟩, rfl⟩, decide_eq_true w3⟩
theorem flatMap_nil' {α β : Type} (f : α → List β) : ∀ l : List α, (l.flatMap f).isEmpty = l.all fun x => (f x).isEmpty
  | [] => rfl
  | a :: l => by
    rw [List.flatMap_cons, List.all_cons, ← flatMap_nil' f l]
    cases f a <;> simp
theorem good_crowded {p : Plan} {ws : List Wish} (hp : p.Ok) (hw : GoodWs p ws) : (p.houses.zipIdx.all fun x => !houseBad p ws x.1 x.2) = (crowded p ws).isEmpty := by
  unfold crowded
  rw [flatMap_nil', Bool.eq_iff_iff, List.all_eq_true, List.all_eq_true]
  refine forall_congr' fun x => ?_
  have hx : x ∈ p.houses.zipIdx → (!houseBad p ws x.1 x.2) = ((crowdRow p ws x.1 x.2).map fun k => ((x.2 : Int), k)).isEmpty := fun hm => by
    obtain ⟨i, hi⟩ := List.getElem?_of_mem hm
    have h1 := (zipIdx_get hi).1
    rw [crowd_bad hp hw (hp.hs _ (List.mem_of_getElem? h1)).1, Bool.not_not, List.isEmpty_map]
  constructor
  · intro k hm; rw [← hx hm]; exact k hm
  · intro k hm; rw [hx hm]; exact k hm
theorem SomeOk.gw {p : Plan} {s : List Int} (hp : p.Ok) (hs : SomeOk p s) : GoodWs p (named p s) := by
  have h := hs.wsok hp
  refine ⟨h.it, fun w hw => ?_⟩
  obtain ⟨x, hx, rfl⟩ := List.mem_map.mp hw
  have := hp.ws _ (p.wish_mem (hs.lo x hx) (hs.hi x hx))
  exact ⟨this.f0, this.fl, this.l1⟩
theorem emp_app {α : Type} (a b : List α) : (a ++ b).isEmpty = (a.isEmpty && b.isEmpty) := by cases a <;> simp
theorem good_reasons {p : Plan} {s : List Int} (hp : p.Ok) (hs : SomeOk p s) : areGood p (named p s) = (reasonsOf p s).isEmpty := by
  unfold areGood reasonsOf
  rw [good_crowded hp (hs.gw hp)]
  simp only [emp_app, List.isEmpty_map]
  cases (tired p (named p s)).isEmpty <;> cases (bleached p (named p s)).isEmpty <;> cases (crowded p (named p s)).isEmpty <;> rfl
end Mus

namespace Mus
open PySem PySem.Spec PyProof.Rows L2 PL
/-! ## slices -/
theorem cutD_to (xs : List PyData) (n : Nat) : PL.cutD xs none (some (n : Int)) = xs.take n := by
  unfold PL.cutD
  rw [HT.sIx_nat, HT.sIx_none, Nat.sub_zero, List.drop_zero]
  rw [List.take_eq_take_iff]; omega
theorem cutD_from (xs : List PyData) (n : Nat) : PL.cutD xs (some (n : Int)) none = xs.drop n := by
  unfold PL.cutD
  rw [HT.sIx_nat, HT.sIx_none]
  by_cases h : n ≤ xs.length
  · rw [Nat.min_eq_left h, List.take_of_length_le (by rw [List.length_drop]; exact Nat.le_refl _)]
  · rw [Nat.min_eq_right (by omega), List.drop_of_length_le (Nat.le_refl _), List.drop_of_length_le (by omega), List.take_nil]
theorem cutD_m1 (xs : List PyData) : PL.cutD xs (some (-1)) none = xs.drop (xs.length - 1) := by
  have e : HT.sIx xs.length 0 (some (-1)) = xs.length - 1 := by
    show (if (-1 : Int) < 0 then ((-1 : Int) + (xs.length : Int)).toNat else min ((-1 : Int)).toNat xs.length) = _
    rw [if_pos (by decide)]
    omega
  unfold PL.cutD
  rw [e, HT.sIx_none, List.take_of_length_le (by rw [List.length_drop]; exact Nat.le_refl _)]
def less (s : List Int) (i : Nat) : List Int := s.take i ++ s.drop (i + 1)
theorem less_sub (s : List Int) (i : Nat) : (less s i).Sublist s := by
  unfold less
  have h : (s.take i ++ s.drop (i + 1)).Sublist (s.take i ++ s.drop i) := List.Sublist.append (List.Sublist.refl _) (by
    rw [show s.drop (i + 1) = (s.drop i).drop 1 by rw [List.drop_drop]]
    exact List.drop_sublist 1 _)
  rw [List.take_append_drop] at h
  exact h
theorem cut_less (s : List Int) (i : Nat) : PL.cutD (s.map PyData.int) none (some (i : Int)) ++ PL.cutD (s.map PyData.int) (some ((i : Int) + 1)) none = (less s i).map PyData.int := by
  rw [cutD_to, show ((i : Int) + 1) = ((i + 1 : Nat) : Int) by omega, cutD_from]
  unfold less
  rw [List.map_append, List.map_take, List.map_drop]
theorem SomeOk.sub {p : Plan} {s t : List Int} (h : SomeOk p s) (k : t.Sublist s) : SomeOk p t := ⟨fun x hx => h.lo x (k.subset hx), fun x hx => h.hi x (k.subset hx), asc_sub k ((asc_iff s).mp h.as)⟩
/-! ## what a reason says -/
theorem mem_light {p : Plan} {s : List Int} {i : Int} : Reason.light i ∈ against p s ↔ (0 ≤ i ∧ i < p.objects.length) ∧ (p.obj i).light < (awks p s i).sum := by
  unfold against aL aR aV aRow aCol
  simp only [List.mem_append, List.mem_map, List.mem_filter, List.mem_flatMap, rangeD_mem, decide_eq_true_eq]
  constructor
  · rintro ((⟨a, ⟨h1, h2⟩, e⟩ | ⟨_, _, _, _, e⟩) | ⟨_, _, _, _, e⟩)
    · cases e; exact ⟨⟨h1.1, by omega⟩, h2⟩
    · cases e
    · cases e
  · rintro ⟨h1, h2⟩
    exact Or.inl (Or.inl ⟨i, ⟨⟨h1.1, by omega⟩, h2⟩, rfl⟩)
theorem mem_rest {p : Plan} {s : List Int} {a b : Int} : Reason.rest a b ∈ against p s ↔ a ∈ s ∧ b ∈ s ∧ aPair p a b = true ∧ aNear p a b = true := by
  unfold against aL aR aV aRow aCol
  simp only [List.mem_append, List.mem_map, List.mem_filter, List.mem_flatMap, rangeD_mem, Bool.and_eq_true]
  constructor
  · rintro ((⟨_, _, e⟩ | ⟨x, hx, y, ⟨hy, h1⟩, e⟩) | ⟨_, _, _, _, e⟩)
    · cases e
    · cases e; exact ⟨hx, hy, h1.1, h1.2⟩
    · cases e
  · rintro ⟨h1, h2, h3, h4⟩
    exact Or.inl (Or.inr ⟨a, h1, b, ⟨h2, h3, h4⟩, rfl⟩)
theorem mem_value {p : Plan} {s : List Int} {h k : Int} : Reason.value h k ∈ against p s ↔ (0 ≤ h ∧ h < p.houses.length) ∧ (0 ≤ k ∧ k ≤ 60) ∧ p.lim h < (aWorth p (aHere p s h) k).sum := by
  unfold against aL aR aV aRow aCol
  simp only [List.mem_append, List.mem_map, List.mem_filter, List.mem_flatMap, rangeD_mem, decide_eq_true_eq]
  constructor
  · rintro ((⟨_, _, e⟩ | ⟨_, _, _, _, e⟩) | ⟨x, hx, y, ⟨hy, h1⟩, e⟩)
    · cases e
    · cases e
    · cases e; exact ⟨⟨hx.1, by omega⟩, ⟨hy.1, by omega⟩, h1⟩
  · rintro ⟨h1, h2, h3⟩
    exact Or.inr ⟨h, ⟨h1.1, by omega⟩, k, ⟨⟨h2.1, by omega⟩, h3⟩, rfl⟩
/-- q is as p, but not stricter -/
structure Ease (p q : Plan) : Prop where
  ws : q.wishes = p.wishes
  hl : q.houses.length = p.houses.length
  ol : q.objects.length = p.objects.length
  lim : ∀ h : Int, 0 ≤ h → h < p.houses.length → p.lim h ≤ q.lim h
  ob : ∀ i : Int, 0 ≤ i → i < p.objects.length → (p.obj i).light ≤ (q.obj i).light ∧ (q.obj i).rest ≤ (p.obj i).rest ∧ (q.obj i).value = (p.obj i).value
theorem Ease.refl (p : Plan) : Ease p p := ⟨rfl, rfl, rfl, fun _ _ _ => Int.le_refl _, fun _ _ _ => ⟨Int.le_refl _, Int.le_refl _, rfl⟩⟩
theorem Ease.wish {p q : Plan} (e : Ease p q) (x : Int) : q.wish x = p.wish x := by unfold Plan.wish; rw [e.ws]
theorem awks_mono {p q : Plan} (hp : p.Ok) (e : Ease p q) {s t : List Int} (hs : InRng p s) (k : t.Sublist s) (i : Int) : (awks q t i).sum ≤ (awks p s i).sum := by
  unfold awks
  have e1 : (fun x => decide ((q.wish x).item = i)) = fun x => decide ((p.wish x).item = i) := by funext x; rw [e.wish]
  have e2 : (fun x => (q.wish x).last - (q.wish x).first + 1) = fun x => (p.wish x).last - (p.wish x).first + 1 := by funext x; rw [e.wish]
  rw [e1, e2]
  refine sum_le _ _ _ (k.filter _) fun x hx => ?_
  have h := hs x (List.mem_filter.mp hx).1
  have := (hp.ws _ (p.wish_mem h.1 h.2)).fl
  omega
theorem here_sub {p q : Plan} (e : Ease p q) {s t : List Int} (k : t.Sublist s) (h : Int) : (aHere q t h).Sublist (aHere p s h) := by
  unfold aHere
  have e1 : (fun x => decide ((q.wish x).house = h)) = fun x => decide ((p.wish x).house = h) := by funext x; rw [e.wish]
  have e2 : q.wish = p.wish := by funext x; rw [e.wish]
  rw [e1, e2]
  exact (k.filter _).map _
theorem here_item {p : Plan} (hp : p.Ok) {s : List Int} (hs : InRng p s) {h : Int} {w : Wish} (hw : w ∈ aHere p s h) : w.Ok p ∧ w.house = h := by
  obtain ⟨x, hx, rfl⟩ := List.mem_map.mp hw
  have g := List.mem_filter.mp hx
  have := hs x g.1
  exact ⟨hp.ws _ (p.wish_mem this.1 this.2), of_decide_eq_true g.2⟩
theorem aWorth_eq {p q : Plan} (e : Ease p q) {ws : List Wish} (hw : ∀ w ∈ ws, 0 ≤ w.item ∧ w.item < p.objects.length) (k : Int) : aWorth q ws k = aWorth p ws k := by
  unfold aWorth
  exact List.map_congr_left fun w hx => (e.ob _ (hw w (List.mem_filter.mp hx).1).1 (hw w (List.mem_filter.mp hx).1).2).2.2
theorem aWorth_mono {p q : Plan} (hp : p.Ok) (e : Ease p q) {s t : List Int} (hs : InRng p s) (k : t.Sublist s) (h w : Int) : (aWorth q (aHere q t h) w).sum ≤ (aWorth p (aHere p s h) w).sum := by
  have hsub := here_sub e k h
  rw [aWorth_eq e (fun v hv => by have := (here_item hp hs (hsub.subset hv)).1; exact ⟨this.i0, this.i1⟩)]
  unfold aWorth
  refine sum_le _ _ _ (hsub.filter _) fun v hv => ?_
  have := (here_item hp hs (List.mem_filter.mp hv).1).1
  have := (hp.os _ (p.obj_mem this.i0 this.i1)).v0
  omega
theorem against_mono {p q : Plan} (hp : p.Ok) (e : Ease p q) {s t : List Int} (hs : InRng p s) (k : t.Sublist s) : ∀ r ∈ against q t, r ∈ against p s := by
  intro r hr
  cases r with
  | light i =>
    rw [mem_light] at hr ⊢
    have h1 : i < p.objects.length := by rw [← e.ol]; exact hr.1.2
    have := awks_mono hp e hs k i
    have := (e.ob i hr.1.1 h1).1
    exact ⟨⟨hr.1.1, h1⟩, by omega⟩
  | rest a b =>
    rw [mem_rest] at hr ⊢
    obtain ⟨h1, h2, h3, h4⟩ := hr
    refine ⟨k.subset h1, k.subset h2, ?_, ?_⟩
    · unfold aPair at h3 ⊢
      rw [e.wish, e.wish] at h3
      exact h3
    · unfold aNear at h4 ⊢
      rw [e.wish, e.wish] at h4
      simp only [Bool.and_eq_true, decide_eq_true_eq] at h4 ⊢
      have hx := hs a (k.subset h1)
      have hw := hp.ws _ (p.wish_mem hx.1 hx.2)
      have := (e.ob _ hw.i0 hw.i1).2.1
      omega
  | value h w =>
    rw [mem_value] at hr ⊢
    have h1 : h < p.houses.length := by rw [← e.hl]; exact hr.1.2
    have := aWorth_mono hp e hs k h w
    have := e.lim h hr.1.1 h1
    exact ⟨⟨hr.1.1, h1⟩, hr.2.1, by omega⟩
def good (p : Plan) (s : List Int) : Bool := (against p s).isEmpty
theorem good_eq {p : Plan} {s : List Int} (hp : p.Ok) (hs : SomeOk p s) : areGood p (named p s) = good p s := by
  rw [good_reasons hp hs, good, against_eq hp hs]
theorem good_iff {p : Plan} {s : List Int} : good p s = true ↔ ∀ r, r ∉ against p s := by
  unfold good
  rw [List.isEmpty_iff, List.eq_nil_iff_forall_not_mem]
theorem good_mono {p q : Plan} (hp : p.Ok) (e : Ease p q) {s t : List Int} (hs : InRng p s) (k : t.Sublist s) (h : good p s = true) : good q t = true := by
  rw [good_iff] at h ⊢
  exact fun r hr => h r (against_mono hp e hs k r hr)
theorem good_nil {p : Plan} (hp : p.Ok) : good p [] = true := by
  rw [good_iff]
  intro r hr
  cases r with
  | light i =>
    rw [mem_light] at hr
    have := (hp.os _ (p.obj_mem hr.1.1 hr.1.2)).l0
    have h2 := hr.2
    simp [awks] at h2
    omega
  | rest a b => rw [mem_rest] at hr; cases hr.1
  | value h k =>
    rw [mem_value] at hr
    have hm : p.lim h ∈ p.houses := getD_mem _ hr.1.1 hr.1.2
    have := (hp.hs _ hm).1
    have h2 := hr.2.2
    simp [aWorth, aHere] at h2
    omega
def fits (p : Plan) (w : Wish) : Bool := decide (w.last - w.first + 1 ≤ (p.obj w.item).light) && decide ((p.obj w.item).value ≤ p.lim w.house)
theorem good_one {p : Plan} (hp : p.Ok) {x : Int} (h0 : 0 ≤ x) (h1 : x < p.wishes.length) : good p [x] = fits p (p.wish x) := by
  have hw := hp.ws _ (p.wish_mem h0 h1)
  rw [Bool.eq_iff_iff, good_iff]
  unfold fits
  simp only [Bool.and_eq_true, decide_eq_true_eq]
  constructor
  · intro k
    refine ⟨?_, ?_⟩
    · have := mt mem_light.mpr (k (.light (p.wish x).item))
      simp only [awks, List.filter_cons, decide_true, if_true, List.filter_nil, List.map_cons, List.map_nil, List.sum_cons, List.sum_nil] at this
      have i0 := hw.i0
      have i1 := hw.i1
      by_cases c : (p.wish x).last - (p.wish x).first + 1 ≤ (p.obj (p.wish x).item).light
      · exact c
      · exact absurd ⟨⟨i0, i1⟩, by omega⟩ this
    · have := mt mem_value.mpr (k (.value (p.wish x).house (p.wish x).first))
      have e : (aWorth p (aHere p [x] (p.wish x).house) (p.wish x).first).sum = (p.obj (p.wish x).item).value := by
        have hfl := hw.fl
        simp [aWorth, aHere, hfl]
      rw [e] at this
      by_cases c : (p.obj (p.wish x).item).value ≤ p.lim (p.wish x).house
      · exact c
      · have l1 := hw.l1
        have fl := hw.fl
        exact absurd ⟨⟨hw.h0, hw.h1⟩, ⟨hw.f0, by omega⟩, by omega⟩ this
  · rintro ⟨k1, k2⟩ r hr
    cases r with
    | light i =>
      rw [mem_light] at hr
      have l0 := (hp.os _ (p.obj_mem hr.1.1 hr.1.2)).l0
      have h2 := hr.2
      by_cases c : (p.wish x).item = i
      · subst c
        simp [awks] at h2
        omega
      · simp [awks, c] at h2
        omega
    | rest a b =>
      rw [mem_rest] at hr
      obtain ⟨h1, h2, h3, _⟩ := hr
      rw [List.mem_singleton.mp h1, List.mem_singleton.mp h2] at h3
      simp [aPair] at h3
    | value h k =>
      rw [mem_value] at hr
      have hm : p.lim h ∈ p.houses := getD_mem _ hr.1.1 hr.1.2
      have l0 := (hp.hs _ hm).1
      have h2 := hr.2.2
      by_cases c : (p.wish x).house = h
      · subst c
        by_cases c2 : (p.wish x).first ≤ k ∧ k ≤ (p.wish x).last
        · simp [aWorth, aHere, c2] at h2
          omega
        · have : ¬ (decide ((p.wish x).first ≤ k) && decide (k ≤ (p.wish x).last)) = true := by simpa using fun h => c2 h
          simp only [aWorth, aHere, List.filter_cons, decide_true, if_true, List.filter_nil, List.map_cons, List.map_nil, if_neg this, List.sum_nil] at h2
          omega
      · simp [aWorth, aHere, c] at h2
        omega
/-! greater limits and light, less rest -/
def eased (p : Plan) : Plan := ⟨p.houses.map fun x => if (40 : Int) < x + 1 then 40 else x + 1, p.objects.map fun o => ⟨o.home, o.value, if (0 : Int) > o.rest - 1 then 0 else o.rest - 1, if (40 : Int) < o.light + 2 then 40 else o.light + 2⟩, p.wishes⟩
theorem getD_map {α β : Type} (f : α → β) (l : List α) (i : Nat) (a : α) (b : β) (h : i < l.length) : (l.map f).getD i b = f (l.getD i a) := by
  simp [List.getD, List.getElem?_map, List.getElem?_eq_getElem h]
theorem eased_obj {p : Plan} {i : Int} (h0 : 0 ≤ i) (h1 : i < p.objects.length) : (eased p).obj i = ⟨(p.obj i).home, (p.obj i).value, if (0 : Int) > (p.obj i).rest - 1 then 0 else (p.obj i).rest - 1, if (40 : Int) < (p.obj i).light + 2 then 40 else (p.obj i).light + 2⟩ := by
  unfold Plan.obj eased
  exact getD_map _ _ _ _ _ (by omega)
theorem ease_eased {p : Plan} (hp : p.Ok) : Ease p (eased p) := by
  refine ⟨rfl, by simp [eased], by simp [eased], fun h h0 h1 => ?_, fun i h0 h1 => ?_⟩
  · have e : (eased p).lim h = if (40 : Int) < p.lim h + 1 then 40 else p.lim h + 1 := by
      unfold Plan.lim eased
      exact getD_map _ _ _ _ _ (by omega)
    have hm : p.lim h ∈ p.houses := getD_mem _ h0 h1
    have := hp.hs _ hm
    rw [e]; split <;> omega
  · rw [eased_obj h0 h1]
    have := hp.os _ (p.obj_mem h0 h1)
    have r0 := this.r0
    have l1 := this.l1
    refine ⟨?_, ?_, rfl⟩
    · show _ ≤ (if (40 : Int) < (p.obj i).light + 2 then 40 else (p.obj i).light + 2)
      split <;> omega
    · show (if (0 : Int) > (p.obj i).rest - 1 then 0 else (p.obj i).rest - 1) ≤ _
      split <;> omega
theorem eased_ok {p : Plan} (hp : p.Ok) : (eased p).Ok := by
  obtain ⟨a, b, c, d, e, f, g, i⟩ := hp
  refine ⟨by simpa [eased] using a, by simpa [eased] using b, fun x hx => ?_, by simpa [eased] using d, by simpa [eased] using e, fun o ho => ?_, g, fun w hw => ?_⟩
  · obtain ⟨y, hy, rfl⟩ := List.mem_map.mp hx
    have := c y hy
    show (0 : Int) ≤ (if (40 : Int) < y + 1 then 40 else y + 1) ∧ (if (40 : Int) < y + 1 then 40 else y + 1) ≤ (40 : Int)
    split <;> omega
  · obtain ⟨y, hy, rfl⟩ := List.mem_map.mp ho
    obtain ⟨q1, q2, q3, q4, q5, q6, q7, q8⟩ := f y hy
    refine ⟨q1, by simpa [eased] using q2, q3, q4, ?_, ?_, ?_, ?_⟩
    · show (0 : Int) ≤ (if (0 : Int) > y.rest - 1 then 0 else y.rest - 1); split <;> omega
    · show (if (0 : Int) > y.rest - 1 then 0 else y.rest - 1) ≤ (9 : Int); split <;> omega
    · show (1 : Int) ≤ (if (40 : Int) < y.light + 2 then 40 else y.light + 2); split <;> omega
    · show (if (40 : Int) < y.light + 2 then 40 else y.light + 2) ≤ (40 : Int); split <;> omega
  · obtain ⟨q1, q2, q3, q4, q5, q6, q7, q8⟩ := i w hw
    refine ⟨q1, by simpa [eased] using q2, q3, by simpa [eased] using q4, ?_, q6, q7, q8⟩
    rw [eased_obj q3 q4]
    exact q5
def c_law_eased : Ct := ⟨Plan, fun p => [eP p], fun p => p.Ok, fun p => Eq (eP (eased p))⟩
/-! a wish twice -/
def twice (p : Plan) : Plan := ⟨p.houses, p.objects, p.wishes ++ p.wishes.drop (p.wishes.length - 1)⟩
theorem twice_len {p : Plan} (h : 0 < p.wishes.length) : (twice p).wishes.length = p.wishes.length + 1 := by
  unfold twice
  rw [List.length_append, List.length_drop]; omega
theorem twice_ok {p : Plan} (hp : p.Ok) (h0 : 0 < p.wishes.length) (h1 : p.wishes.length < 8) : (twice p).Ok := by
  refine ⟨hp.h1, hp.h4, hp.hs, hp.o1, hp.o4, hp.os, by rw [twice_len h0]; omega, fun w hw => ?_⟩
  have hm : w ∈ p.wishes := by
    rcases List.mem_append.mp hw with q | q
    · exact q
    · exact List.mem_of_mem_drop q
  obtain ⟨q1, q2, q3, q4, q5, q6, q7, q8⟩ := hp.ws w hm
  exact ⟨q1, q2, q3, q4, q5, q6, q7, q8⟩
theorem twice_rest {p : Plan} (hp : p.Ok) (h0 : 0 < p.wishes.length) : Reason.rest ((p.wishes.length : Int) - 1) p.wishes.length ∈ against (twice p) [(p.wishes.length : Int) - 1, p.wishes.length] := by
  have e1 : (twice p).wish ((p.wishes.length : Int) - 1) = p.wishes[p.wishes.length - 1] := by
    unfold Plan.wish twice
    rw [show ((p.wishes.length : Int) - 1).toNat = p.wishes.length - 1 by omega]
    simp only [List.getD]
    rw [List.getElem?_append_left (by omega), List.getElem?_eq_getElem (by omega)]
    rfl
  have e2 : (twice p).wish (p.wishes.length : Int) = p.wishes[p.wishes.length - 1] := by
    unfold Plan.wish twice
    rw [Int.toNat_natCast]
    simp only [List.getD]
    rw [List.getElem?_append_right (Nat.le_refl _), Nat.sub_self, List.getElem?_drop, Nat.add_zero, List.getElem?_eq_getElem (by omega)]
    rfl
  rw [mem_rest]
  refine ⟨List.mem_cons_self, List.mem_cons_of_mem _ List.mem_cons_self, ?_, ?_⟩
  · unfold aPair
    rw [e1, e2]
    simp
    omega
  · unfold aNear
    rw [e1, e2]
    have hm : p.wishes[p.wishes.length - 1] ∈ p.wishes := List.getElem_mem _
    have hw := hp.ws _ hm
    have hr := (hp.os _ (p.obj_mem hw.i0 hw.i1)).r0
    have : (twice p).obj (p.wishes[p.wishes.length - 1]).item = p.obj (p.wishes[p.wishes.length - 1]).item := rfl
    rw [this]
    have := hw.fl
    simp only [Bool.and_eq_true, decide_eq_true_eq]
    omega
end Mus

namespace PySem.W
open PySem PySem.Calls PyProof.Rows PySem.SeqAt
section
variable {A : Around} {s : Shared}
/-- the call of tuple's own __lt__, as sorting makes it -/
theorem pl_call_tuple_lt {prog : Program} {w : World} {E : Value → Shared → Prop} {Q : Value → Shared → Prop} {l b : Addr} {items items2 : Array Value} {e r : Nat → Bool} (hl : s.heap.IsTuple l items) (hb : s.heap.IsTuple b items2)
    (he : ∀ j (h1 : j < items.size) (h2 : j < items2.size), EqAt A.in1 s items[j] items2[j] (e j)) (hr : ∀ j (h1 : j < items.size) (h2 : j < items2.size), e j = false → RcLt A.in1 s items[j] items2[j] (r j))
    (h : Q (.bool (firstLt e r (decide (items.size < items2.size)) (List.range (min items.size items2.size)))) s) : wpAny (model prog w) A (call (.builtin "tuple.__lt__") [.ref l, .ref b]) Q E s := by
  obtain ⟨⟨cls, dd, data, sl⟩, ho, hc, n, hd⟩ := id hl
  obtain ⟨⟨cls2, dd2, data2, sl2⟩, ho2, hc2, n2, hd2⟩ := id hb
  simp only at hc hd hc2 hd2
  subst hc hd hc2 hd2
  exact call_meets F.slot_tuple_lt ⟨_, ho, rfl⟩ F.entry_tuple_lt (F.args_tuple_lt_2 _ _) (tuple_ltAt l b items items2 n n2 dd dd2 sl sl2 e r) ⟨ho, ho2, he, hr, h⟩
/-- one tuple against another, both of one type -/
theorem pl_oneLt_tup {prog : Program} {w : World} {E : Value → Shared → Prop} {xs ys : List PyData} {a b : Value} {as bs : List Addr} {Q : Bool → Shared → Prop} (ra : Reads s.heap a (.tuple xs) as) (rb : Reads s.heap b (.tuple ys) bs) (h : alike (.tuple xs) (.tuple ys) = true)
    (hu : A.units + min (PyData.tuple xs).depth (PyData.tuple ys).depth < cLine) (hq : Q (dataLt (.tuple xs) (.tuple ys)) s) : wpAny (model prog w) A (oneLt' true a b) Q E s := by
  have hal : alikeAll xs ys = true := by simpa [alike] using h
  cases ra with
  | @tuple l o vs n _ as₁ h1 h2 h3 h4 =>
    cases rb with
    | @tuple l' o' vs' n' _ bs₁ k1 k2 k3 k4 =>
      have n1 : vs.size = xs.length := by simpa using ReadsAll.length _ _ _ h4
      have n2 : vs'.size = ys.length := by simpa using ReadsAll.length _ _ _ k4
      rw [dataLt_tuple, ← firstLt_toks xs ys hal, ← n1, ← n2] at hq
      rw [oneLt'_eq]
      simp only [if_true]
      refine wpAny_bind (wpAny_cRoomFor (room_here hu) ?_)
      refine wpAny_bind (wpAny_callSpecialIfBound?_slot (T := "tuple") ⟨_, h1, h2⟩ F.slot_tuple_lt (pl_call_tuple_lt (e := pairEq xs ys) (r := fun j => dataLt (xs.getD j .none) (ys.getD j .none)) ⟨_, h1, h2, _, h3⟩ ⟨_, k1, k2, _, k3⟩ (fun j j1 j2 => ?_) (fun j j1 j2 hj => ?_) ?_))
      · have := eqAt_alikeAll xs ys A.in1 s vs.toList vs'.toList _ _ h4 k4 hal (room_in hu) j (by simpa using j1) (by simpa using j2)
        simpa using this
      · have := rcLt_alikeAll xs ys A.in1 s vs.toList vs'.toList _ _ h4 k4 hal (room_in hu) j (by simpa using j1) (by simpa using j2) hj
        simpa using this
      · exact wpAny_truthy_bool hq
section
variable {M : Model} {E : Value → Shared → Prop}
theorem pl_firsts : ∀ (vs : List Value) {Q : List (Option Value) → Shared → Prop}, (∀ v ∈ vs, ∃ xs as, Reads s.heap v (.tuple xs) as) → (∀ fs, Q fs s) → wpAny M A (vs.mapM firstOfTuple') Q E s
  | [], _, _, h => by rw [List.mapM_nil]; exact wpAny_pure (h _)
  | v :: vs, Q, hv, h => by
    rw [List.mapM_cons, kas_first_eq]
    obtain ⟨xs, as, r⟩ := hv v List.mem_cons_self
    cases r with
    | @tuple l o items n _ as₁ h1 h2 h3 h4 =>
      have LT : Looks M s.heap (typeOf (.ref l)) (.type "tuple") := fun A Q E s k q => wpAny_typeOf_ref (k _ _ h1) (by rw [h2]; exact q)
      refine wpAny_bind (wpAny_bind (LT.here ?_))
      rw [if_neg (by decide)]
      refine wpAny_bind (listItems_at h1 h3 (wpAny_pure ?_))
      exact wpAny_bind (pl_firsts vs (Q := fun bs s' => wpAny M A (pure (_ :: bs)) Q E s') (fun u hu => hv u (List.mem_cons_of_mem _ hu)) fun fs => wpAny_pure (h _))
/-- tuples of which the first is empty: they are sorted as things of one type -/
theorem pl_kind {v : Value} {vs : List Value} {as : List Addr} {Q : SortKind → Shared → Prop} (h0 : Reads s.heap v (.tuple []) as) (hv : ∀ u ∈ vs, ∃ xs as, Reads s.heap u (.tuple xs) as) (h : Q oneType' s) : wpAny M A (keyKind' (v :: vs).toArray) Q E s := by
  have hT : ∀ u ∈ v :: vs, Looks M s.heap (typeOf u) (.type "tuple") := fun u hu => by
    have : ∃ xs as, Reads s.heap u (.tuple xs) as := by
      rcases List.mem_cons.mp hu with e | e
      · exact ⟨_, _, by rw [e]; exact h0⟩
      · exact hv u e
    obtain ⟨xs, as, r⟩ := this
    cases r with
    | @tuple l o items n _ as₁ h1 h2 h3 h4 => exact fun A Q E s k q => wpAny_typeOf_ref (k _ _ h1) (by rw [h2]; exact q)
  rw [keyKind'_eq, List.mapM_toArray, map_eq_pure_bind, List.mapM_cons, kas_first_eq]
  cases h0 with
  | @tuple l o items n _ as₁ h1 h2 h3 h4 =>
    have e0 : items.size = 0 := by simpa using ReadsAll.length _ _ _ h4
    refine wpAny_bind (wpAny_bind (wpAny_bind (wpAny_bind ((hT (.ref l) List.mem_cons_self).here ?_))))
    rw [if_neg (by decide)]
    refine wpAny_bind (listItems_at h1 h3 (wpAny_pure ?_))
    refine wpAny_bind (pl_firsts vs hv fun fs => wpAny_pure (wpAny_pure ?_))
    have en : items[0]? = none := by simp [e0]
    rw [en]
    rw [if_neg (by simp), if_neg (by simp)]
    rw [oneTypeOnly'_eq, List.mapM_toArray, map_eq_pure_bind]
    refine wpAny_bind (wpAny_bind (wpAny_bind (kas_mapM (r := .type "tuple") _ (fun v hv Q' hq => (hT v hv).here hq) (wpAny_pure ?_))))
    have hall : ((List.map (fun _ => Value.type "tuple") (Value.ref l :: vs)).toArray.all fun x => x == Value.type "tuple") = true := by
      simp only [List.all_toArray, List.all_map, List.all_eq_true]
      intro _ _
      rfl
    have hz : (List.map (fun _ => Value.type "tuple") (Value.ref l :: vs)).toArray[0]? = some (Value.type "tuple") := by simp
    rw [hz]
    simp only [hall, if_true]
    exact wpAny_pure (wpAny_pure h)
end
end
end PySem.W

namespace PySem.W
open PySem PySem.Calls PyProof.Rows
section
variable {prog : Program} {w : World} {A : Around} {E : Value → Shared → Prop} {s : Shared} {κ : PyProof.Rows.KeyKind}
/-- what a tuple holds, in a new list -/
theorem pl_collect_tup {l : Addr} {vs : List Value} {Q : List Value → Shared → Prop} (hl : s.heap.IsTuple l vs.toArray) (hz : vs.length ≤ sizeLine)
    (h : Q vs { s with heap := (s.heap.push (seqObj "list" #[] 0)).update s.heap.objs.size (Obj.mapSeq (· ++ vs.toArray)) }) : wpAny (model prog w) A (collect (.ref l)) Q E s := by
  obtain ⟨o, ho, hc, n, hd⟩ := id hl
  have g1 : (s.heap.push (seqObj "list" #[] 0)).get? l = some o := Heap.get?_push_of_some _ ho
  have g2 : (s.heap.push (seqObj "list" #[] 0)).get? s.heap.objs.size = some (seqObj "list" #[] 0) := Heap.get?_push_size _ rfl
  unfold collect; refine wpAny_bind (wpAny_runValue (codeAny_builtin entry_proto_collect' ?_))
  show wpAny _ _ (do again (.builtin "list.__iadd__" ⟨[← newList [], .ref l], []⟩)) _ _ s; refine wpAny_bind (wpAny_newList (wpAny_pure ⟨Code.quiet_builtin _ (by decide +kernel), codeAny_builtin entry_list_iadd' ?_⟩))
  show wpAny _ _ (Builtin.List.listExtendWith (.ref s.heap.objs.size) (.ref l) (.ref s.heap.objs.size)) _ _ { s with heap := s.heap.push (seqObj "list" #[] 0) }; unfold Builtin.List.listExtendWith
  refine wpAny_bind (wpAny_typeOf (T := "tuple") ⟨o, g1, hc⟩ ?_); rw [if_pos (by rw [show (Value.type "tuple" == Value.type "tuple") = true from rfl]; simp)]
  refine wpAny_bind (listItems_at g1 hd ?_); refine wpAny_bind (listItems_at g2 rfl ?_)
  rw [if_neg (by simp)]; refine wpAny_bind (listUpdate_at g2 rfl ?_ (Nat.zero_le _) (by show (#[] ++ vs.toArray).size ≤ sizeLine + 1; simp only [Array.size_append, List.size_toArray, List.length_nil]; omega))
  refine wpAny_pure ?_; refine wpAny_bind (wpAny_load (get?_update_seq g2 _) ?_)
  show wpAny _ _ (pure ((#[] : Array Value) ++ vs.toArray).toList) Q E _; rw [show ((#[] : Array Value) ++ vs.toArray).toList = vs by simp]; exact wpAny_pure h
/-- sorted of a tuple: a new list -/
theorem pl_sorted_tup {l : Addr} {vs : List Value} {Q : Value → Shared → Prop} (hl : s.heap.IsTuple l vs.toArray) (S : SortsAt prog w A.in1.in1 { s with heap := sortingHeap (copyHeap s.heap vs) (s.heap.objs.size + 1) vs } κ vs) (hL : vs.length ≤ sizeLine)
    (h : Q (.ref (s.heap.objs.size + 1)) { s with heap := sortedAll s.heap vs (sortVals κ false vs vs).toArray }) : wpAny (model prog w) A (call (.builtin "sorted") [.ref l]) Q E s := by
  have hsz : ((s.heap.push (seqObj "list" #[] 0)).update s.heap.objs.size (Obj.mapSeq (· ++ vs.toArray))).objs.size = s.heap.objs.size + 1 := by simp [Heap.size_update, size_push']
  refine call_function_entry_kw kind_sorted plain_sorted entry_sorted (args_sorted1 _) ?_; unfold Builtin.«sorted»
  refine wpAny_bind (m := checkCount "sorted" 1 1 _) (wpAny_pure ?_); refine wpAny_bind (pl_collect_tup hl hL ?_)
  refine wpAny_bind (wpAny_newList ?_ hL); show wpAny _ _ _ _ _ { s with heap := copyHeap s.heap vs }
  rw [hsz]; refine wpAny_bind (wpAny_holding (wpAny_call_entry_kw slot_list_sort ⟨_, copyHeap_at s.heap vs, rfl⟩ entry_list_sort ?body (args_list_sort _)))
  case body =>
    show wpAny (model prog w) A.in1.in1 (Builtin.«list.sort» ⟨[.ref (s.heap.objs.size + 1)], []⟩) _ _ _
    exact list_sort_vals (s := { s with heap := copyHeap s.heap vs }) (copyHeap_at s.heap vs) S hL ⟨_, rfl, wpAny_pure ⟨_, rfl, h⟩⟩
end
end PySem.W
namespace PL
open PySem PySem.Spec PyProof.Rows L2 PySem.W
/-! ## sorting and the least of lists of data -/
theorem sortsAt_one {prog : Program} {w : World} {A : Around} {s : Shared} {v : Value} {d : PyData} {as : List Addr} (r : Reads s.heap v d as) (hal : alike d d = true) (hn : d ≠ .none) (hu : A.units + d.depth < cLine) : SortsAt prog w A s (dataKind s.heap [d]) [v] := by
  have hA : AllAlike [d] := fun x hx y hy => by rw [List.mem_singleton.mp hx, List.mem_singleton.mp hy]; exact hal
  refine ⟨fun u hu' => ?_, PyProof.Rows.general', fun E x y a b Q ha hb hq => ?_, fun h2 => absurd h2 (by simp)⟩
  · rw [List.mem_singleton.mp hu']
    exact ⟨_, dataKind_some hA List.mem_cons_self r⟩
  · obtain ⟨e, as1, hd, ra, rfl⟩ := dataKind_inv ha
    obtain ⟨e', as2, hd', rb, rfl⟩ := dataKind_inv hb
    rw [List.mem_singleton.mp hd] at ra hq
    rw [List.mem_singleton.mp hd'] at rb hq
    show wpAny (model prog w) A (oneLt' false x y) Q E s
    exact oneLt_alike (f := false) (fun z => nomatch z) ra rb hal hn (by rw [Nat.min_self]; exact hu) hq
/-- tuples of which the first is empty -/
def EmptyFirst (ds : List PyData) : Prop := ∃ r, ds = .tuple [] :: r ∧ ∀ d ∈ r, ∃ xs, d = .tuple xs
/-- what sorted takes -/
def Srt (ds : List PyData) : Prop := AllAlike ds ∧ (Sortable ds ∨ (ds.length ≤ 1 ∨ EmptyFirst ds)) ∧ ∀ d ∈ ds, d ≠ .none ∧ d.depth ≤ 60
def sortD (ds : List PyData) : List PyData := ds.mergeSort (dataLe false id)
def rSortD : List V → Hp → VK → Prop := fun vs H Q => ∃ (Hm : Hp) (a : Addr) (xs : List V) (ds : List PyData), vs = [.ref a] ∧ Ex Hm H ∧ (H a = some (.lst xs) ∨ H a = some (.tup xs)) ∧ RpA Hm xs ds ∧ Srt ds ∧ ds.length ≤ big ∧ ∀ ys p, RpA Hm ys (sortD ds) → H p = none → Q (.ref p) (upd H p (.lst ys))
theorem each_of_vals {Hm H : Hp} {K : PySem.W.Frag} {X : Cx} {pins : List (Addr × Obj)} {σ : L2.St} {s : Shared} (I : Inv X pins σ H s) (ex : Ex Hm H) : ∀ {xs : List V} {ds : List PyData} {us : List Value}, Vals xs us → RpA Hm xs ds → EachIs (fun u (b : V × PyData) => RelV b.1 u ∧ Rp Hm b.1 b.2) us (xs.zip ds) ∧ EachIs (fun u (b : V × PyData) => ∃ as, Reads s.heap u b.2 as) us (xs.zip ds)
  | [], _, _, r, h => by cases h; cases r; exact ⟨.nil, .nil⟩
  | x :: xs, _, _, r, h => by
    cases h with
    | cons h1 h2 =>
      cases r with
      | cons r1 r2 =>
        obtain ⟨e1, e2⟩ := each_of_vals (K := K) I ex r2 h2
        obtain ⟨as, rd⟩ := Dp.reads I _ _ _ ((h1.mono ex).dp) r1
        exact ⟨.cons ⟨r1, h1⟩ e1, .cons ⟨as, rd⟩ e2⟩
theorem each_back {H : Hp} : ∀ {us : List Value} {bs : List (V × PyData)}, EachIs (fun u (b : V × PyData) => RelV b.1 u ∧ Rp H b.1 b.2) us bs → Vals (bs.map Prod.fst) us ∧ RpA H (bs.map Prod.fst) (bs.map Prod.snd)
  | _, _, .nil => ⟨.nil, .nil⟩
  | _, _, .cons h t => ⟨.cons h.1 (each_back t).1, .cons h.2 (each_back t).2⟩
theorem sort_snd (xs : List V) (ds : List PyData) (hl : xs.length = ds.length) : ((xs.zip ds).mergeSort (dataLe false (Prod.snd : V × PyData → PyData))).map Prod.snd = sortD ds := by
  unfold sortD
  rw [List.map_mergeSort (r := dataLe false (Prod.snd : V × PyData → PyData)) (s := dataLe false id) (f := (Prod.snd : V × PyData → PyData)) (fun a _ b _ => rfl), List.map_snd_zip (by omega)]
theorem sortsAt_data {X : Cx} {pins : List (Addr × Obj)} {σ : L2.St} {Hm H : Hp} {s : Shared} {xs : List V} {ds : List PyData} {its : List Value} (hu : X.A.units + 65 < cLine) (I : Inv X pins σ H s) (hx : RpA Hm xs ds) (hS : Srt ds) (rv : Vals xs its) (e2 : EachIs (fun u (b : V × PyData) => ∃ as, Reads s.heap u b.2 as) its (xs.zip ds)) :
    SortsAt X.prog X.w X.A.in1.in1 { s with heap := sortingHeap (copyHeap s.heap its) (s.heap.objs.size + 1) its } (dataKind (sortingHeap (copyHeap s.heap its) (s.heap.objs.size + 1) its) ds) its := by
  obtain ⟨hal, hso, hne⟩ := hS
  have em : (xs.zip ds).map Prod.snd = ds := List.map_snd_zip (by rw [hx.len]; exact Nat.le_refl _)
  have er' : EachIs (fun u (b : V × PyData) => ∃ as, Reads (sortingHeap (copyHeap s.heap its) (s.heap.objs.size + 1) its) u b.2 as) its (xs.zip ds) := e2.mono fun _ _ ⟨as, r⟩ => ⟨as, PyProof.Rows.Reads.keeps (fun _ _ => sorting_copy_old) r⟩
  rcases hso with hso | h1 | ⟨r, hr, htup⟩
  · have e3 := each_map (R := fun v d => ∃ as, Reads (sortingHeap (copyHeap s.heap its) (s.heap.objs.size + 1) its) v d as) Prod.snd er'
    rw [em] at e3
    refine SortsAt.data (s := { s with heap := sortingHeap (copyHeap s.heap its) (s.heap.objs.size + 1) its }) e3 hal hso fun d hd => ?_
    have := (hne d hd).2
    show X.A.units + 2 + _ < _
    omega
  · cases hx with
    | nil =>
      cases rv
      exact ⟨fun v hv => absurd hv (by simp), PyProof.Rows.general', fun E x y a b Q ha _ _ => (by obtain ⟨d, _, hd, _⟩ := dataKind_inv ha; exact absurd hd (by simp)), fun h2 => absurd h2 (by simp)⟩
    | cons g1 g2 =>
      cases g2 with
      | nil =>
        cases rv with
        | cons rv1 rv2 =>
          cases rv2
          cases e2 with
          | cons e3 e4 =>
            obtain ⟨as, rd⟩ := e3
            refine sortsAt_one (PyProof.Rows.Reads.keeps (fun _ _ => sorting_copy_old) rd) (hal _ List.mem_cons_self _ List.mem_cons_self) (hne _ List.mem_cons_self).1 ?_
            have := (hne _ List.mem_cons_self).2
            show X.A.units + 2 + _ < _
            omega
      | cons g3 g4 => simp at h1
  · have e3 := each_map (R := fun v d => ∃ as, Reads (sortingHeap (copyHeap s.heap its) (s.heap.objs.size + 1) its) v d as) Prod.snd er'
    rw [em] at e3
    have tup : ∀ d ∈ ds, ∃ xs, d = .tuple xs := fun d hd => by
      rw [hr] at hd
      rcases List.mem_cons.mp hd with e | e
      · exact ⟨[], e⟩
      · exact htup d e
    refine ⟨fun v hv => ?_, PyProof.Rows.oneType', fun E x y a b Q ha hb hq => ?_, fun h2 E Q hq => ?_⟩
    · obtain ⟨d, hd, as, r'⟩ := e3.left v hv
      exact ⟨_, dataKind_some hal hd r'⟩
    · obtain ⟨d, as1, hd, ra, rfl⟩ := dataKind_inv ha
      obtain ⟨d', as2, hd', rb, rfl⟩ := dataKind_inv hb
      obtain ⟨xs1, rfl⟩ := tup d hd
      obtain ⟨ys1, rfl⟩ := tup d' hd'
      rw [PyProof.Rows.keyLt'_oneType]
      refine pl_oneLt_tup ra rb (hal _ hd _ hd') ?_ hq
      have h1 := (hne _ hd).2
      have h2 := Nat.min_le_left (PyData.tuple xs1).depth (PyData.tuple ys1).depth
      show X.A.units + 2 + _ < _
      omega
    · subst hr
      generalize hits : its = its' at e3 hq ⊢
      cases e3 with
      | cons h t =>
        obtain ⟨as, r0⟩ := h
        refine pl_kind r0 (fun u hu => ?_) hq
        obtain ⟨d, hd, as', r'⟩ := t.left u hu
        obtain ⟨xs', rfl⟩ := htup d hd
        exact ⟨xs', as', r'⟩
theorem cr_sortD {X : Cx} (hu : X.A.units + 65 < cLine) : CallR X (.builtin "sorted") rSortD := by
  intro pins s σ H vs us Q I r h
  obtain ⟨Hm, a, xs, ds, rfl, ex, hs, hx, hS, hbig, q⟩ := h
  obtain ⟨u, rfl, ru⟩ := vals1 r
  obtain rfl : u = Value.ref a := ru
  have em : (xs.zip ds).map Prod.snd = ds := List.map_snd_zip (by rw [hx.len]; exact Nat.le_refl _)
  have main : ∀ its : List Value, Vals xs its → xs.length ≤ sizeLine → (∀ {Q' : Value → Shared → Prop}, SortsAt X.prog X.w X.A.in1.in1 { s with heap := sortingHeap (copyHeap s.heap its) (s.heap.objs.size + 1) its } (dataKind (sortingHeap (copyHeap s.heap its) (s.heap.objs.size + 1) its) ds) its → its.length ≤ sizeLine →
      Q' (.ref (s.heap.objs.size + 1)) { s with heap := PyProof.Rows.sortedAll s.heap its (sortVals (dataKind (sortingHeap (copyHeap s.heap its) (s.heap.objs.size + 1) its) ds) false its its).toArray } → wpAny (model X.prog X.w) X.A (call (.builtin "sorted") [.ref a]) Q' X.xe s) → wpAny (model X.prog X.w) X.A (call (.builtin "sorted") [.ref a]) (EP X pins σ Q) X.xe s := fun its rv hz run => by
    obtain ⟨e1, e2⟩ := each_of_vals (K := X.K) I ex rv hx
    refine run (sortsAt_data hu I hx hS rv e2) (by rw [← rv.length]; exact hz) ?_
    have er' : EachIs (fun u (b : V × PyData) => ∃ as, Reads (sortingHeap (copyHeap s.heap its) (s.heap.objs.size + 1) its) u b.2 as) its (xs.zip ds) := e2.mono fun _ _ ⟨as, r⟩ => ⟨as, PyProof.Rows.Reads.keeps (fun _ _ => sorting_copy_old) r⟩
    have ho := sortVals_data (enc := Prod.snd) false e1 er' (by rw [em]; exact hS.1)
    rw [em] at ho
    obtain ⟨b1, b2⟩ := each_back ho
    rw [sort_snd xs ds hx.len] at b2
    obtain ⟨n, hn⟩ := PyProof.Rows.sortedAll_at s.heap its (sortVals (dataKind (sortingHeap (copyHeap s.heap its) (s.heap.objs.size + 1) its) ds) false its its).toArray
    have hlen : (((xs.zip ds).mergeSort (dataLe false (Prod.snd : V × PyData → PyData))).map Prod.fst).length ≤ sizeLine := by
      rw [List.length_map, List.length_mergeSort, List.length_zip]
      have := le_line hbig
      have := hx.len
      omega
    exact ⟨.ref (s.heap.objs.size + 1), upd H (s.heap.objs.size + 1) (.lst _), I.laid (t' := s.toks) (fun b o e => PyProof.Rows.sortedAll_old e) (Nat.le_succ _) ⟨hlen, _, n, b1, hn⟩, rfl, q _ _ b2 (I.hok.fresh (Nat.le_succ _))⟩
  rcases hs with hs | hs
  · obtain ⟨its, rv, hl, hz⟩ := I.list (SqL.of (K := X.K) hs)
    exact main its rv hz fun S hL h => sorted_vals hl.isList S hL h
  · obtain ⟨its, rv, hl, hz⟩ := I.tuple (SqT.of (K := X.K) hs)
    exact main its rv hz fun S hL h => pl_sorted_tup hl S hL h
/-- the least -/
def rMinD : List V → Hp → VK → Prop := fun vs H Q => ∃ (Hm : Hp) (a : Addr) (xs : List V) (d : PyData) (ds : List PyData), vs = [.ref a] ∧ Ex Hm H ∧ H a = some (.lst xs) ∧ RpA Hm xs (d :: ds) ∧ AlikeAll (d :: ds) ∧ SeqAt.shaped (.list (d :: ds)) = true ∧ ∀ v, Rp Hm v (minD d ds) → Q v H
theorem vals_at {xs : List V} {us : List Value} (r : Vals xs us) : ∀ {i : Nat} {u : Value}, us[i]? = some u → ∃ x, xs[i]? = some x ∧ RelV x u := by
  induction r with
  | nil => intro i u h; simp at h
  | cons h t ih =>
    intro i u hu
    cases i with
    | zero => simp only [List.getElem?_cons_zero, Option.some.injEq] at hu; subst hu; exact ⟨_, rfl, h⟩
    | succ i => rw [List.getElem?_cons_succ] at hu ⊢; exact ih hu
theorem rpA_at {Hm : Hp} : ∀ {xs : List V} {ds : List PyData} {i : Nat} {x : V}, RpA Hm xs ds → xs[i]? = some x → ∃ d, ds[i]? = some d ∧ Rp Hm x d
  | [], _, i, x, _, h => by simp at h
  | y :: xs, _, i, x, r, h => by
    cases r with
    | cons r1 r2 =>
      cases i with
      | zero => rw [List.getElem?_cons_zero] at h ⊢; cases h; exact ⟨_, rfl, r1⟩
      | succ i => rw [List.getElem?_cons_succ] at h ⊢; exact rpA_at r2 h
theorem cr_minD {X : Cx} (hc : X.calm = true) (hu : X.A.units + 66 < cLine) : CallR X (.builtin "min") rMinD := by
  intro pins s σ H vs us Q I r h
  obtain ⟨Hm, a, xs, d, ds, rfl, ex, hs, hx, hal, hsh, q⟩ := h
  obtain ⟨its, rv, hl, hz⟩ := I.list (SqL.of (K := X.K) hs)
  obtain ⟨u, rfl, ru⟩ := vals1 r
  obtain rfl : u = Value.ref a := ru
  obtain ⟨as, hr⟩ := Dp.readsAll I _ _ _ (RpA.dp _ _ (hx.mono ex)) rv
  have sh : PyData.canLayAll0 (d :: ds) = true ∧ PyData.depthAll (d :: ds) ≤ 63 := by
    unfold SeqAt.shaped at hsh
    rw [Bool.and_eq_true, decide_eq_true_iff] at hsh
    refine ⟨by simpa [PyData.canLay0] using hsh.1, ?_⟩
    have := hsh.2
    simp only [PyData.depth] at this
    omega
  refine min_list_data (I.ok.hd hc) hl.isList (as := as) (by simpa using hr) hal (by omega) fun i v h' tk bs hv hm hk => ?_
  have hv' : its[i]? = some v := by simpa using hv
  obtain ⟨x, hx1, rx⟩ := vals_at rv hv'
  obtain ⟨d', hd1, rd⟩ := rpA_at hx hx1
  obtain ⟨bs', hm'⟩ := Dp.reads I _ _ _ (rd.mono ex).dp rx
  have hm2 : Reads h' v d' bs' := PyProof.Rows.Reads.keeps hk hm'
  have mem : ∀ y ∈ d :: ds, y.canLay0 = true := by
    have : ∀ l : List PyData, PyData.canLayAll0 l = true → ∀ y ∈ l, y.canLay0 = true := by
      intro l
      induction l with
      | nil => intro _ y hy; cases hy
      | cons a l ih =>
        intro h y hy
        simp only [PyData.canLayAll0, Bool.and_eq_true] at h
        rcases List.mem_cons.mp hy with e | e
        · rw [e]; exact h.1
        · exact ih h.2 y e
    exact this _ sh.1
  have fm : ∀ (l : List PyData) (x : PyData), l.foldl (fun a y => if dataLt y a then y else a) x ∈ x :: l := by
    intro l
    induction l with
    | nil => intro x; exact List.mem_cons_self
    | cons a l ih =>
      intro x
      rw [List.foldl_cons]
      split
      · exact List.mem_cons_of_mem _ (ih a)
      · rcases List.mem_cons.mp (ih x) with e | e
        · rw [e]; exact List.mem_cons_self
        · exact List.mem_cons_of_mem _ (List.mem_cons_of_mem _ e)
  have e1 := SeqAt.readOf_eq (mem _ (List.mem_of_getElem? hd1)) hm2
  have e2 := SeqAt.readOf_eq (mem _ (fm ds d)) hm
  have ed : d' = minD d ds := by rw [← e1]; exact e2
  subst ed
  exact ⟨x, H, I.kept (t' := tk) hk, rx, q x rd⟩
section
variable {X : Cx} {ρ : List SD} {a : Expr} {ds : List PyData} {d : PyData} {p pos : Pos} {n : Nat}
theorem ev_sortedL (hr : Room n X.A) (hg : Gl X "sorted") (hm : X.mg "sorted" = none) (ha : Ev X ρ a (.list ds)) (hS : Srt ds) (hs : starEach [a] X.env = (false, eval a X.env) :: starEach [] X.env := by rfl) : Ev X ρ (.Call (.Name "sorted" p) [a] [] pos) (.list (sortD ds)) :=
  ev_callB (cr_sortD (room65 hr)) hg hm (by decide +kernel) (ea_cons ha ea_nil hs) (fun O H xs Q al r k => by
    obtain ⟨v, rfl, r1⟩ := rpA1 r
    cases r1 with
    | lst h1 h2 h3 =>
      exact ⟨_, _, _, ds, rfl, Ex.unmsk, .inl (msk_some h1).2, h3, hS, h2, fun ys q hy hq => k.lst al rfl (by unfold sortD; rw [List.length_mergeSort]; exact h2) hy q hq⟩) (by decide) (by decide) hs rfl
theorem ev_sortedT (hr : Room n X.A) (hg : Gl X "sorted") (hm : X.mg "sorted" = none) (ha : Ev X ρ a (.tuple ds)) (hS : Srt ds) (hs : starEach [a] X.env = (false, eval a X.env) :: starEach [] X.env := by rfl) : Ev X ρ (.Call (.Name "sorted" p) [a] [] pos) (.list (sortD ds)) :=
  ev_callB (cr_sortD (room65 hr)) hg hm (by decide +kernel) (ea_cons ha ea_nil hs) (fun O H xs Q al r k => by
    obtain ⟨v, rfl, r1⟩ := rpA1 r
    cases r1 with
    | tup h1 h2 h3 =>
      exact ⟨_, _, _, ds, rfl, Ex.unmsk, .inr (msk_some h1).2, h3, hS, h2, fun ys q hy hq => k.lst al rfl (by unfold sortD; rw [List.length_mergeSort]; exact h2) hy q hq⟩) (by decide) (by decide) hs rfl
theorem ev_minL (hc : X.calm = true) (hr : Room n X.A) (hg : Gl X "min") (hm : X.mg "min" = none) (ha : Ev X ρ a (.list (d :: ds))) (hA : AlikeAll (d :: ds)) (hsh : SeqAt.shaped (.list (d :: ds)) = true) (hs : starEach [a] X.env = (false, eval a X.env) :: starEach [] X.env := by rfl) : Ev X ρ (.Call (.Name "min" p) [a] [] pos) (minD d ds) :=
  ev_callB (cr_minD hc (by have := hr.un; omega)) hg hm (by decide +kernel) (ea_cons ha ea_nil hs) (fun O H xs Q al r k => by
    obtain ⟨v, rfl, r1⟩ := rpA1 r
    cases r1 with
    | lst h1 h2 h3 => exact ⟨_, _, _, d, ds, rfl, Ex.unmsk, (msk_some h1).2, h3, hA, hsh, fun v hv => k.here rfl hv⟩) (by decide) (by decide) hs rfl
end
/-! ### rows of ints -/
abbrev rowD (xs : List Int) : PyData := .tuple (xs.map PyData.int)
theorem lt_row (xs ys : List Int) : dataLt (rowD xs) (rowD ys) = decide (xs < ys) := by
  show dataLt (.tuple (xs.map PyData.int)) (.tuple (ys.map PyData.int)) = _
  rw [dataLt_tuple]
  exact dataLt_ints xs ys
theorem alike_row (xs ys : List Int) : alike (rowD xs) (rowD ys) = true := by
  show alike (.tuple (xs.map PyData.int)) (.tuple (ys.map PyData.int)) = true
  simp only [alike]
  exact alike_ints xs ys
def sortR (rows : List (List Int)) : List (List Int) := rows.mergeSort fun a b => !decide (b < a)
theorem sort_rows (rows : List (List Int)) : sortD (rows.map rowD) = (sortR rows).map rowD := by
  unfold sortD sortR
  rw [← List.map_mergeSort (r := fun a b => !decide (b < a)) (s := dataLe false id) (f := rowD) (fun a _ b _ => by rw [dataLe_eq]; show (!decide (b < a)) = !dataLt (rowD b) (rowD a); rw [lt_row])]
theorem depth_row (xs : List Int) : (rowD xs).depth ≤ 1 := by
  show PyData.depth (.tuple (xs.map PyData.int)) ≤ 1
  simp only [PyData.depth]
  have := depth_ints xs
  omega
theorem srt_rows {rows : List (List Int)} (h : (∀ r ∈ rows, r ≠ []) ∨ rows.length ≤ 1) : Srt (rows.map rowD) := by
  refine ⟨fun d hd d' hd' => ?_, ?_, fun d hd => ?_⟩
  · obtain ⟨a, _, rfl⟩ := List.mem_map.mp hd
    obtain ⟨b, _, rfl⟩ := List.mem_map.mp hd'
    exact alike_row a b
  · rcases h with h | h
    · refine .inl (.inl fun d hd => ?_)
      obtain ⟨a, ha, rfl⟩ := List.mem_map.mp hd
      cases a with
      | nil => exact absurd rfl (h _ ha)
      | cons x r => exact ⟨_, _, rfl⟩
    · exact .inr (.inl (by rw [List.length_map]; exact h))
  · obtain ⟨a, _, rfl⟩ := List.mem_map.mp hd
    have := depth_row a
    exact ⟨(fun z => by cases z), by omega⟩
/-- .. rows of which the first is empty -/
theorem srt_rowsE (rows : List (List Int)) : Srt (([] :: rows).map rowD) := by
  refine ⟨fun d hd d' hd' => ?_, .inr (.inr ⟨rows.map rowD, rfl, fun d hd => ?_⟩), fun d hd => ?_⟩
  · obtain ⟨a, _, rfl⟩ := List.mem_map.mp hd
    obtain ⟨b, _, rfl⟩ := List.mem_map.mp hd'
    exact alike_row a b
  · obtain ⟨a, _, rfl⟩ := List.mem_map.mp hd
    exact ⟨_, rfl⟩
  · obtain ⟨a, _, rfl⟩ := List.mem_map.mp hd
    have := depth_row a
    exact ⟨(fun z => by cases z), by omega⟩
/-- the least, by what comes first -/
def minF {α : Type} (lt : α → α → Bool) (x : α) (xs : List α) : α := xs.foldl (fun a y => if lt y a then y else a) x
theorem minD_map {α : Type} (e : α → PyData) (lt : α → α → Bool) (h : ∀ a b, dataLt (e a) (e b) = lt a b) (x : α) (xs : List α) : minD (e x) (xs.map e) = e (minF lt x xs) := by
  unfold minD minF
  rw [List.foldl_map]
  induction xs generalizing x with
  | nil => rfl
  | cons a l ih =>
    rw [List.foldl_cons, List.foldl_cons, h]
    cases lt a x
    · exact ih x
    · exact ih a
/-- (how many, row) -/
abbrev lenD (xs : List Int) : PyData := .tuple [.int (xs.length : Nat), rowD xs]
def lenLt (a b : List Int) : Bool := if a.length = b.length then decide (a < b) else decide (a.length < b.length)
theorem eqv_row : ∀ xs ys : List Int, PyData.eqv (rowD xs) (rowD ys) = decide (xs = ys) := by
  intro xs ys
  show PyData.eqv (.tuple (xs.map PyData.int)) (.tuple (ys.map PyData.int)) = _
  simp only [PyData.eqv]
  induction xs generalizing ys with
  | nil => cases ys <;> simp [PyData.eqvAll]
  | cons x xs ih =>
    cases ys with
    | nil => simp [PyData.eqvAll]
    | cons y ys =>
      simp only [List.map_cons, PyData.eqvAll, PyData.eqv, ih ys]
      rw [Bool.eq_iff_iff]
      simp
theorem lt_len (a b : List Int) : dataLt (lenD a) (lenD b) = lenLt a b := by
  show dataLt (.tuple [.int (a.length : Nat), rowD a]) (.tuple [.int (b.length : Nat), rowD b]) = _
  rw [dataLt_pair (by simp [alike]) (alike_row a b), eqv_row, lt_row, dataLt_int]
  unfold lenLt
  by_cases e : a.length = b.length
  · rw [if_pos (by simp [PyData.eqv, e]), if_pos e]
    by_cases e2 : a = b
    · subst e2; simp [List.lt_irrefl]
    · rw [if_neg (by simpa using e2)]
  · rw [if_neg (by simp [PyData.eqv]; omega), if_neg e]
    rw [Bool.eq_iff_iff]; simp
theorem alike_lenD (xs ys : List Int) : alike (lenD xs) (lenD ys) = true := by
  have := alike_row xs ys
  simp only [alike, alikeAll] at this ⊢
  simp [this]
end PL

namespace Mus
open PySem PySem.Spec PyProof.Rows L2 PL
/-! ## ascending rows -/
theorem asc_nodup {s : List Int} (h : asc s = true) : s.Nodup := ((asc_iff s).mp h).imp fun h => by omega
theorem asc_ext : ∀ {s t : List Int}, asc s = true → asc t = true → (∀ x, x ∈ s ↔ x ∈ t) → s = t
  | [], [], _, _, _ => rfl
  | [], b :: t, _, _, h => absurd ((h b).mpr List.mem_cons_self) (by simp)
  | a :: s, [], _, _, h => absurd ((h a).mp List.mem_cons_self) (by simp)
  | a :: s, b :: t, h1, h2, h => by
    have p1 := List.pairwise_cons.mp ((asc_iff _).mp h1)
    have p2 := List.pairwise_cons.mp ((asc_iff _).mp h2)
    have e : a = b := by
      rcases List.mem_cons.mp ((h a).mp List.mem_cons_self) with q | q
      · exact q
      · rcases List.mem_cons.mp ((h b).mpr List.mem_cons_self) with r | r
        · exact r.symm
        · have := p2.1 a q
          have := p1.1 b r
          omega
    subst e
    have : s = t := asc_ext ((asc_iff s).mpr p1.2) ((asc_iff t).mpr p2.2) fun x => by
      constructor
      · intro hx
        rcases List.mem_cons.mp ((h x).mp (List.mem_cons_of_mem _ hx)) with q | q
        · have := p1.1 x hx; omega
        · exact q
      · intro hx
        rcases List.mem_cons.mp ((h x).mpr (List.mem_cons_of_mem _ hx)) with q | q
        · have := p2.1 x hx; omega
        · exact q
    rw [this]
theorem asc_filter {s : List Int} (h : asc s = true) (q : Int → Bool) : asc (s.filter q) = true := asc_sub List.filter_sublist ((asc_iff s).mp h)
theorem sub_of_mem {s t : List Int} (hs : asc s = true) (ht : asc t = true) (h : ∀ x ∈ s, x ∈ t) : s.Sublist t := by
  have e : s = t.filter fun x => decide (x ∈ s) := asc_ext hs (asc_filter ht _) fun x => by
    rw [List.mem_filter, decide_eq_true_iff]
    exact ⟨fun hx => ⟨h x hx, hx⟩, fun hx => hx.2⟩
  rw [e]
  exact List.filter_sublist
def subs : Nat → List (List Int)
  | 0 => [[]]
  | n + 1 => subs n ++ (subs n).map fun r => r ++ [(n : Int)]
theorem subs_len : ∀ n, (subs n).length = 2 ^ n
  | 0 => rfl
  | n + 1 => by
    show (subs n ++ (subs n).map _).length = _
    rw [List.length_append, List.length_map, subs_len n, Nat.pow_succ]; omega
theorem mem_subs : ∀ {n : Nat} {s : List Int}, s ∈ subs n ↔ asc s = true ∧ ∀ x ∈ s, 0 ≤ x ∧ x < n
  | 0, s => by
    constructor
    · intro h
      rw [List.mem_singleton.mp h]
      exact ⟨rfl, by simp⟩
    · rintro ⟨_, h⟩
      cases s with
      | nil => exact List.mem_singleton.mpr rfl
      | cons a s => have := h a List.mem_cons_self; omega
  | n + 1, s => by
    show s ∈ subs n ++ (subs n).map (fun r => r ++ [(n : Int)]) ↔ _
    rw [List.mem_append, List.mem_map]
    constructor
    · rintro (h | ⟨r, h, rfl⟩)
      · obtain ⟨h1, h2⟩ := mem_subs.mp h
        exact ⟨h1, fun x hx => by have := h2 x hx; omega⟩
      · obtain ⟨h1, h2⟩ := mem_subs.mp h
        refine ⟨?_, fun x hx => ?_⟩
        · rw [asc_iff, List.pairwise_append]
          refine ⟨(asc_iff r).mp h1, by simp, fun a ha b hb => ?_⟩
          rw [List.mem_singleton.mp hb]
          exact (h2 a ha).2
        · rcases List.mem_append.mp hx with q | q
          · have := h2 x q; omega
          · rw [List.mem_singleton.mp q]; omega
    · rintro ⟨h1, h2⟩
      by_cases c : (n : Int) ∈ s
      · right
        refine ⟨s.filter fun x => decide (x < (n : Int)), mem_subs.mpr ⟨asc_filter h1 _, fun x hx => ?_⟩, ?_⟩
        · obtain ⟨a, b⟩ := List.mem_filter.mp hx
          exact ⟨(h2 x a).1, of_decide_eq_true b⟩
        · refine asc_ext ?_ h1 fun x => ?_
          · rw [asc_iff, List.pairwise_append]
            refine ⟨(asc_iff _).mp (asc_filter h1 _), by simp, fun a ha b hb => ?_⟩
            rw [List.mem_singleton.mp hb]
            exact of_decide_eq_true (List.mem_filter.mp ha).2
          · rw [List.mem_append, List.mem_filter, List.mem_singleton, decide_eq_true_iff]
            constructor
            · rintro (h | h)
              · exact h.1
              · rw [h]; exact c
            · intro hx
              have := h2 x hx
              by_cases e : x = n
              · exact Or.inr e
              · exact Or.inl ⟨hx, by omega⟩
      · left
        refine mem_subs.mpr ⟨h1, fun x hx => ?_⟩
        have := h2 x hx
        have : x ≠ n := fun e => c (e ▸ hx)
        omega
theorem subs_nodup : ∀ n, (subs n).Nodup
  | 0 => by simp [subs]
  | n + 1 => by
    show (subs n ++ (subs n).map fun r => r ++ [(n : Int)]).Nodup
    rw [List.nodup_append]
    refine ⟨subs_nodup n, (List.pairwise_map.mpr ((subs_nodup n).imp fun {a b} h e => h (List.append_inj_left' e rfl))), fun a ha b hb e => ?_⟩
    subst e
    obtain ⟨r, _, rfl⟩ := List.mem_map.mp hb
    have := (mem_subs.mp ha).2 n (List.mem_append_right _ List.mem_cons_self)
    omega
theorem subs_some {p : Plan} {s : List Int} : s ∈ subs p.wishes.length ↔ SomeOk p s := by
  rw [mem_subs]
  exact ⟨fun ⟨h1, h2⟩ => ⟨fun x hx => (h2 x hx).1, fun x hx => (h2 x hx).2, h1⟩, fun ⟨h1, h2, h3⟩ => ⟨h3, fun x hx => ⟨h1 x hx, h2 x hx⟩⟩⟩
/-! ## sorted rows -/
theorem lt_tri (a b : List Int) : a < b ∨ a = b ∨ b < a := by
  rcases Decidable.em (a < b) with h | h
  · exact Or.inl h
  · rcases Decidable.em (b < a) with h2 | h2
    · exact Or.inr (Or.inr h2)
    · exact Or.inr (Or.inl (List.le_antisymm (List.not_lt.mp h2) (List.not_lt.mp h)))
theorem sortR_perm (l : List (List Int)) : (sortR l).Perm l := List.mergeSort_perm ..
theorem sortR_mem {l : List (List Int)} {r : List Int} : r ∈ sortR l ↔ r ∈ l := (sortR_perm l).mem_iff
theorem sortR_len (l : List (List Int)) : (sortR l).length = l.length := (sortR_perm l).length_eq
theorem sortR_sorted (l : List (List Int)) : (sortR l).Pairwise fun a b => ¬ b < a := by
  have h := List.pairwise_mergeSort (le := fun a b : List Int => !decide (b < a)) (fun a b c h1 h2 => by
    simp only [Bool.not_eq_true', decide_eq_false_iff_not] at h1 h2 ⊢
    rw [List.not_lt] at h1 h2 ⊢
    exact List.le_trans h1 h2) (fun a b => by
    rw [Bool.or_eq_true]
    simp only [Bool.not_eq_true', decide_eq_false_iff_not, List.not_lt]
    exact List.le_total a b) l
  exact h.imp fun h => by simpa using h
theorem sorted_uniq : ∀ {l m : List (List Int)}, l.Pairwise (fun a b => ¬ b < a) → m.Pairwise (fun a b => ¬ b < a) → l.Perm m → l = m := fun {l m} h1 h2 p => p.eq_of_pairwise (le := fun a b => ¬ b < a) (fun a b _ _ h1 h2 => by
  rcases lt_tri a b with h | h | h
  · exact absurd h h2
  · exact h
  · exact absurd h h1) h1 h2
theorem sortR_cong {l m : List (List Int)} (h : l.Perm m) : sortR l = sortR m := sorted_uniq (sortR_sorted l) (sortR_sorted m) ((sortR_perm l).trans (h.trans (sortR_perm m).symm))
/-! ## mirrors: clashing.py -/
def isClash (p : Plan) (s : List Int) : Bool := !good p s && (List.range s.length).all fun i => good p (less s i)
def clashesOf (p : Plan) : List (List Int) := sortR ((subs p.wishes.length).filter (isClash p))
def within (one other : List Int) : Bool := one.all fun x => decide (x ∈ other)
def headMin {α : Type} (lt : α → α → Bool) : List α → Option α
  | [] => none
  | a :: l => some (minF lt a l)
def clashIn (p : Plan) (s : List Int) : Option (List Int) := headMin lenLt ((clashesOf p).filter fun r => within r s)
def goodOnes (p : Plan) : List (List Int) := (subs p.wishes.length).filter (good p)
def maxL (l : List (List Int)) : Nat := l.foldl (fun m r => max m r.length) 0
def largest (p : Plan) : List (List Int) := sortR ((goodOnes p).filter fun r => decide (r.length = maxL (goodOnes p)))
def mostGranted (p : Plan) : Nat := maxL (goodOnes p)
def best (p : Plan) : List Int := (largest p).headD []
def others (p : Plan) (s : List Int) : List Int := (rangeD 0 p.wishes.length).filter fun x => decide (x ∉ s)
def toRefuse (p : Plan) : List Int := (headMin (fun a b => decide (a < b)) ((largest p).map (others p))).getD []
def apartF : Nat → List (List Int) → Nat
  | 0, _ => 0
  | _, [] => 0
  | n + 1, a :: l => max (apartF n l) (1 + apartF n (l.filter fun r => !r.any fun x => decide (x ∈ a)))
def mostApart (l : List (List Int)) : Nat := apartF l.length l
def roleOf (p : Plan) (w : Int) : Str := if (largest p).all (fun r => decide (w ∈ r)) then "sure" else if (largest p).any (fun r => decide (w ∈ r)) then "open" else "lost"
def added (p : Plan) (s : List Int) : List Int := (others p s).filter fun x => areGood p (named p (s ++ [x]))
end Mus

namespace Mus
open PySem PySem.Spec PyProof.Rows L2 PL
theorem ev_maxL {X : Cx} {ρ : List SD} {a : Expr} {p pos : Pos} {ns : List Int} {m : Int} (hc : X.calm = true) (hg : Gl X "max") (hm : X.mg "max" = none) (ha : Ev X ρ a (.list (ns.map PyData.int))) (h1 : m ∈ ns) (h2 : ∀ y ∈ ns, y ≤ m) (hs : starEach [a] X.env = (false, eval a X.env) :: starEach [] X.env := by rfl) : Ev X ρ (.Call (.Name "max" p) [a] [] pos) (.int m) :=
  ev_callB (cr_max hc) hg hm (by decide +kernel) (ea_cons ha ea_nil hs) (cd_max h1 h2) (by decide) (by decide) hs rfl
theorem foldl_max (l : List (List Int)) (m : Nat) : (∀ r ∈ l, r.length ≤ l.foldl (fun m r => max m r.length) m) ∧ m ≤ l.foldl (fun m r => max m r.length) m ∧ (l.foldl (fun m r => max m r.length) m = m ∨ ∃ r ∈ l, r.length = l.foldl (fun m r => max m r.length) m) := by
  induction l generalizing m with
  | nil => exact ⟨by simp, Nat.le_refl _, Or.inl rfl⟩
  | cons a l ih =>
    obtain ⟨h1, h2, h3⟩ := ih (max m a.length)
    rw [List.foldl_cons]
    refine ⟨fun r hr => ?_, by omega, ?_⟩
    · rcases List.mem_cons.mp hr with e | e
      · rw [e]; omega
      · exact h1 r e
    · rcases h3 with h3 | ⟨r, hr, h3⟩
      · by_cases c : m ≤ a.length
        · right; exact ⟨a, List.mem_cons_self, by rw [h3]; omega⟩
        · left; rw [h3]; omega
      · right; exact ⟨r, List.mem_cons_of_mem _ hr, h3⟩
theorem le_maxL {l : List (List Int)} {r : List Int} (h : r ∈ l) : r.length ≤ maxL l := (foldl_max l 0).1 r h
theorem maxL_at {l : List (List Int)} (h : l ≠ []) : ∃ r ∈ l, r.length = maxL l := by
  rcases (foldl_max l 0).2.2 with e | e
  · obtain ⟨r, hr⟩ := List.exists_mem_of_ne_nil l h
    have := le_maxL hr
    exact ⟨r, hr, by unfold maxL at *; omega⟩
  · exact e
theorem nil_good {p : Plan} (hp : p.Ok) : ([] : List Int) ∈ goodOnes p := List.mem_filter.mpr ⟨subs_some.mpr ⟨by simp, by simp, rfl⟩, good_nil hp⟩
theorem mem_good {p : Plan} {s : List Int} : s ∈ goodOnes p ↔ SomeOk p s ∧ good p s = true := by
  unfold goodOnes; rw [List.mem_filter, subs_some]
theorem mem_largest {p : Plan} {s : List Int} : s ∈ largest p ↔ (SomeOk p s ∧ good p s = true) ∧ s.length = mostGranted p := by
  unfold largest
  rw [sortR_mem, List.mem_filter, mem_good, decide_eq_true_iff]
  exact Iff.rfl
theorem largest_ne {p : Plan} (hp : p.Ok) : largest p ≠ [] := by
  obtain ⟨r, hr, e⟩ := maxL_at (List.ne_nil_of_mem (nil_good hp))
  exact List.ne_nil_of_mem (mem_largest.mpr ⟨mem_good.mp hr, e⟩)
theorem le_most {p : Plan} {s : List Int} (hs : SomeOk p s) (hg : good p s = true) : s.length ≤ mostGranted p := le_maxL (mem_good.mpr ⟨hs, hg⟩)
theorem subs_le {p : Plan} (hp : p.Ok) : (subs p.wishes.length).length ≤ 256 := by
  rw [subs_len]
  exact Nat.pow_le_pow_right (by decide) hp.w8
theorem goodOnes_le {p : Plan} (hp : p.Ok) : (goodOnes p).length ≤ 256 := Nat.le_trans (List.length_filter_le ..) (subs_le hp)
theorem largest_le {p : Plan} (hp : p.Ok) : (largest p).length ≤ 256 := by
  unfold largest
  rw [sortR_len]
  exact Nat.le_trans (List.length_filter_le ..) (goodOnes_le hp)
theorem clashes_le {p : Plan} (hp : p.Ok) : (clashesOf p).length ≤ 2 ^ p.wishes.length := by
  unfold clashesOf
  rw [sortR_len, ← subs_len]
  exact List.length_filter_le ..
theorem clashes_128 {p : Plan} (hp : p.Ok) (h7 : p.wishes.length ≤ 7) : (clashesOf p).length ≤ 128 := Nat.le_trans (clashes_le hp) (Nat.pow_le_pow_right (n := 2) (by decide) h7)
theorem mem_clashes {p : Plan} {s : List Int} : s ∈ clashesOf p ↔ SomeOk p s ∧ isClash p s = true := by
  unfold clashesOf; rw [sortR_mem, List.mem_filter, subs_some]
theorem clash_ne {p : Plan} (hp : p.Ok) {s : List Int} (h : isClash p s = true) : s ≠ [] := fun e => by
  subst e
  unfold isClash at h
  rw [good_nil hp] at h
  cases h
theorem largest_srt {p : Plan} (hp : p.Ok) : Srt (((goodOnes p).filter fun r => decide (r.length = maxL (goodOnes p))).map rowD) := by
  refine srt_rows ?_
  by_cases c : maxL (goodOnes p) = 0
  · right
    have nd : ((goodOnes p).filter fun r => decide (r.length = maxL (goodOnes p))).Nodup := ((subs_nodup _).filter _).filter _
    have h : ∀ r ∈ (goodOnes p).filter (fun r => decide (r.length = maxL (goodOnes p))), r = [] := fun r hr => by
      have := of_decide_eq_true (List.mem_filter.mp hr).2
      rw [c] at this
      exact List.eq_nil_of_length_eq_zero this
    generalize (goodOnes p).filter (fun r => decide (r.length = maxL (goodOnes p))) = l at nd h
    match l, nd, h with
    | [], _, _ => exact Nat.zero_le _
    | [a], _, _ => exact Nat.le_refl _
    | a :: b :: l, nd, h =>
      have e1 := h a List.mem_cons_self
      have e2 := h b (List.mem_cons_of_mem _ List.mem_cons_self)
      rw [e1, e2] at nd
      simp at nd
  · left
    intro r hr e
    have := of_decide_eq_true (List.mem_filter.mp hr).2
    rw [e] at this
    exact c this.symm
theorem clashes_srt {p : Plan} (hp : p.Ok) : Srt (((subs p.wishes.length).filter (isClash p)).map rowD) := srt_rows (.inl fun r hr => clash_ne hp (List.mem_filter.mp hr).2)
theorem areSome_of {p : Plan} {d : PyData} (h : areSome p d = true) : ∃ s, d = eT s ∧ SomeOk p s := by
  cases d with
  | tuple ds =>
    unfold areSome at h
    rw [Bool.and_eq_true] at h
    have e := all_toI h.1
    refine ⟨ds.map toI, congrArg PyData.tuple e, fun x hx => ?_, fun x hx => ?_, h.2⟩
    all_goals
      obtain ⟨y, hy, rfl⟩ := List.mem_map.mp hx
      obtain ⟨i, rfl, h1, h2⟩ := isBetween_of (List.all_eq_true.mp h.1 y hy)
      simp only [toI]
      omega
  | _ => cases h
def clashD (p : Plan) : PyData → Bool
  | .tuple ds => isClash p (ds.map toI)
  | _ => false
theorem clashD_row (p : Plan) (s : List Int) : clashD p (eT s) = isClash p s := by
  show isClash p ((s.map PyData.int).map toI) = _
  rw [List.map_map]
  have : (toI ∘ PyData.int) = id := rfl
  rw [this, List.map_id]
abbrev eLT (rows : List (List Int)) : PyData := .list (rows.map eT)
abbrev eLTs (rows : List (List Int)) : List PyData := rows.map eT
theorem en_len : En lenD 2 := ⟨fun r => shp_tuple (n := 1) fun d hd => by
    simp only [List.mem_cons, List.not_mem_nil, or_false] at hd
    rcases hd with h | h
    · rw [h]; exact (shp_int _).mono (by decide)
    · rw [h]; exact en_T.shp _, fun a b => by
    have := eqv_row a b
    simp only [PyData.eqv] at this
    simp only [PyData.eqv, PyData.eqvAll, this]
    rw [Bool.eq_iff_iff]
    simp
    intro h; rw [h]⟩
/-! contracts: clashing.py -/
def c_subsets_of : Ct := ⟨Nat, fun n => [.int n], fun n => n ≤ 8, fun n => Eq (eLT (subs n))⟩
def c_good_ones : Ct := ⟨Plan, fun p => [eP p], fun p => p.Ok, fun p => Eq (eLT (goodOnes p))⟩
def c_is_clash_of : Ct := ⟨Plan × List Int, fun a => [eP a.1, eT a.2], fun a => a.1.Ok ∧ SomeOk a.1 a.2, fun a => Eq (.bool (isClash a.1 a.2))⟩
def c_clashes_of : Ct := ⟨Plan, fun p => [eP p], fun p => p.Ok, fun p => Eq (eLT (clashesOf p))⟩
def c_clashes : Ct := ⟨Plan, fun p => [eP p], fun p => p.Ok, fun p => Eq (.tuple ((clashesOf p).map eT))⟩
def c_is_clash : Ct := ⟨Plan × PyData, fun a => [eP a.1, a.2], fun a => a.1.Ok, fun a => Eq (.bool (areSome a.1 a.2 && clashD a.1 a.2))⟩
def c_is_within : Ct := ⟨List Int × List Int, fun a => [eT a.1, eT a.2], fun _ => True, fun a => Eq (.bool (within a.1 a.2))⟩
def c_clash_in : Ct := ⟨Plan × List Int, fun a => [eP a.1, eT a.2], fun a => a.1.Ok ∧ SomeOk a.1 a.2, fun a => Eq (eOpt eT (clashIn a.1 a.2))⟩
def c_largest : Ct := ⟨Plan, fun p => [eP p], fun p => p.Ok, fun p => Eq (eLT (largest p))⟩
def c_most_granted : Ct := ⟨Plan, fun p => [eP p], fun p => p.Ok, fun p => Eq (.int (mostGranted p : Nat))⟩
def c_best : Ct := ⟨Plan, fun p => [eP p], fun p => p.Ok, fun p => Eq (eT (best p))⟩
def c_count_best : Ct := ⟨Plan, fun p => [eP p], fun p => p.Ok, fun p => Eq (.int ((largest p).length : Nat))⟩
def c_to_refuse : Ct := ⟨Plan, fun p => [eP p], fun p => p.Ok, fun p => Eq (eT (toRefuse p))⟩
def c_most_apart (k : Nat) : Ct := ⟨List (List Int), fun l => [eLT l], fun l => l.length ≤ k ∧ l.length ≤ 4096, fun l => Eq (.int (mostApart l : Nat))⟩
theorem apartF_eq : ∀ (n : Nat) (l : List (List Int)), l.length ≤ n → apartF n l = apartF l.length l
  | 0, l, h => by
    have : l = [] := List.eq_nil_of_length_eq_zero (by omega)
    subst this; rfl
  | n + 1, [], _ => by cases n <;> rfl
  | n + 1, a :: l, h => by
    have h1 : l.length ≤ n := by rw [List.length_cons] at h; omega
    have h2 : (l.filter fun r => !r.any fun x => decide (x ∈ a)).length ≤ l.length := List.length_filter_le ..
    show max (apartF n l) (1 + apartF n (l.filter fun r => !r.any fun x => decide (x ∈ a))) = max (apartF l.length l) (1 + apartF l.length (l.filter fun r => !r.any fun x => decide (x ∈ a)))
    rw [apartF_eq n l h1, apartF_eq n _ (by omega), apartF_eq l.length _ h2]
def free (a : List Int) (l : List (List Int)) : List (List Int) := l.filter fun r => !r.any fun x => decide (x ∈ a)
theorem mostApart_nil : mostApart [] = 0 := rfl
theorem mostApart_cons (a : List Int) (l : List (List Int)) : mostApart (a :: l) = max (mostApart l) (1 + mostApart (free a l)) := by
  show max (apartF l.length l) (1 + apartF l.length (free a l)) = _
  rw [apartF_eq l.length (free a l) (List.length_filter_le ..)]
  rfl
def c_apart : Ct := ⟨Plan, fun p => [eP p], fun p => p.Ok ∧ (clashesOf p).length ≤ 128, fun p => Eq (.int (mostApart (clashesOf p) : Nat))⟩
def c_check_wish : Ct := ⟨Plan × Int, fun a => [eP a.1, .int a.2], fun a => a.1.Ok ∧ 0 ≤ a.2 ∧ a.2 < a.1.wishes.length, fun _ => Eq .none⟩
def c_role : Ct := ⟨Plan × Int, fun a => [eP a.1, .int a.2], fun a => a.1.Ok ∧ 0 ≤ a.2 ∧ a.2 < a.1.wishes.length, fun a => Eq (.str (roleOf a.1 a.2))⟩
def c_check_good : Ct := ⟨Plan × List Int, fun a => [eP a.1, eT a.2], fun a => a.1.Ok ∧ SomeOk a.1 a.2 ∧ good a.1 a.2 = true, fun _ => Eq .none⟩
def c_added_to : Ct := ⟨Plan × List Int, fun a => [eP a.1, eT a.2], fun a => a.1.Ok ∧ SomeOk a.1 a.2, fun a => Eq (.list ((added a.1 a.2).map PyData.int))⟩
def c_can_add : Ct := ⟨Plan × List Int, fun a => [eP a.1, eT a.2], fun a => a.1.Ok ∧ SomeOk a.1 a.2 ∧ good a.1 a.2 = true, fun a => Eq (eT (added a.1 a.2))⟩
def c_check_number : Ct := ⟨Int × Int × Int, fun a => [.int a.1, .int a.2.1, .int a.2.2], fun a => a.2.1 ≤ a.1 ∧ a.1 ≤ a.2.2, fun _ => Eq .none⟩
end Mus

namespace Mus
open PySem PySem.Spec PyProof.Rows L2 PL
/-! ## clashes: the plain law -/
theorem good_sub {p : Plan} (hp : p.Ok) {s t : List Int} (hs : SomeOk p s) (k : t.Sublist s) (h : good p s = true) : good p t = true := good_mono hp (Ease.refl p) hs.rng k h
/-- what is left out is at some place -/
theorem sub_less {s t : List Int} (k : t.Sublist s) (h : t.length < s.length) : ∃ i, i < s.length ∧ t.Sublist (less s i) := by
  induction k with
  | slnil => simp at h
  | @cons t s a k ih =>
    exact ⟨0, by simp, by unfold less; simpa using k⟩
  | @cons_cons t s a k ih =>
    obtain ⟨i, hi, hk⟩ := ih (by simpa using h)
    refine ⟨i + 1, by simpa using hi, ?_⟩
    unfold less at hk ⊢
    simp only [List.take_succ_cons, List.drop_succ_cons, List.cons_append]
    exact hk.cons_cons a
theorem less_len {s : List Int} {i : Nat} (h : i < s.length) : (less s i).length + 1 = s.length := by
  unfold less
  rw [List.length_append, List.length_take, List.length_drop]
  omega
theorem isClash_iff {p : Plan} {s : List Int} : isClash p s = true ↔ good p s = false ∧ ∀ i, i < s.length → good p (less s i) = true := by
  unfold isClash
  rw [Bool.and_eq_true, Bool.not_eq_true', List.all_eq_true]
  exact and_congr Iff.rfl ⟨fun h i hi => h i (List.mem_range.mpr hi), fun h i hi => h i (List.mem_range.mp hi)⟩
/-- proper parts of a clash are good -/
theorem clash_part {p : Plan} (hp : p.Ok) {s t : List Int} (hs : SomeOk p s) (hc : isClash p s = true) (k : t.Sublist s) (h : t ≠ s) : good p t = true := by
  have hl : t.length < s.length := Nat.lt_of_le_of_ne k.length_le fun e => h (k.eq_of_length e)
  obtain ⟨i, hi, hk⟩ := sub_less k hl
  exact good_sub hp (hs.sub (less_sub s i)) hk ((isClash_iff.mp hc).2 i hi)
/-- within wishes that are not good there is a clash -/
theorem clash_ex {p : Plan} (hp : p.Ok) : ∀ (n : Nat) (s : List Int), s.length ≤ n → SomeOk p s → good p s = false → ∃ t, t.Sublist s ∧ isClash p t = true
  | 0, s, hl, hs, hg => by
    have : s = [] := List.eq_nil_of_length_eq_zero (by omega)
    subst this
    rw [good_nil hp] at hg; cases hg
  | n + 1, s, hl, hs, hg => by
    by_cases c : ∀ i, i < s.length → good p (less s i) = true
    · exact ⟨s, List.Sublist.refl _, isClash_iff.mpr ⟨hg, c⟩⟩
    · simp only [Classical.not_forall, Bool.not_eq_true] at c
      obtain ⟨i, hi, c⟩ := c
      have := less_len hi
      obtain ⟨t, h1, h2⟩ := clash_ex hp n (less s i) (by omega) (hs.sub (less_sub s i)) c
      exact ⟨t, h1.trans (less_sub s i), h2⟩
theorem within_iff {a b : List Int} : within a b = true ↔ ∀ x ∈ a, x ∈ b := by
  unfold within
  rw [List.all_eq_true]
  exact ⟨fun h x hx => of_decide_eq_true (h x hx), fun h x hx => decide_eq_true (h x hx)⟩
theorem within_sub {p : Plan} {a b : List Int} (ha : SomeOk p a) (hb : SomeOk p b) : within a b = true ↔ a.Sublist b := by
  rw [within_iff]
  exact ⟨fun h => sub_of_mem ha.as hb.as h, fun h x hx => h.subset hx⟩
theorem minF_mem {α : Type} (lt : α → α → Bool) (l : List α) : ∀ a, minF lt a l ∈ a :: l := by
  induction l with
  | nil => intro a; exact List.mem_cons_self
  | cons b l ih =>
    intro a
    unfold minF
    rw [List.foldl_cons]
    split
    · exact List.mem_cons_of_mem _ (ih b)
    · rcases List.mem_cons.mp (ih a) with e | e
      · rw [show l.foldl (fun a y => if lt y a then y else a) a = a from e]; exact List.mem_cons_self
      · exact List.mem_cons_of_mem _ (List.mem_cons_of_mem _ e)
theorem headMin_some {α : Type} {lt : α → α → Bool} {l : List α} {a : α} (h : headMin lt l = some a) : a ∈ l := by
  cases l with
  | nil => cases h
  | cons b l => rw [← Option.some.inj h]; exact minF_mem lt l b
theorem headMin_none {α : Type} {lt : α → α → Bool} {l : List α} : headMin lt l = none ↔ l = [] := by
  cases l with
  | nil => exact ⟨fun _ => rfl, fun _ => rfl⟩
  | cons b l => exact ⟨(fun h => by cases h), (fun h => by cases h)⟩
theorem clashIn_none {p : Plan} (hp : p.Ok) {s : List Int} (hs : SomeOk p s) : (clashIn p s).isNone = good p s := by
  rw [Bool.eq_iff_iff, Option.isNone_iff_eq_none]
  unfold clashIn
  rw [headMin_none, List.filter_eq_nil_iff]
  constructor
  · intro h
    cases c : good p s with
    | true => rfl
    | false =>
      obtain ⟨t, h1, h2⟩ := clash_ex hp s.length s (Nat.le_refl _) hs c
      exact absurd ((within_sub (hs.sub h1) hs).mpr h1) (h t (mem_clashes.mpr ⟨hs.sub h1, h2⟩))
  · intro h r hr hw
    obtain ⟨h1, h2⟩ := mem_clashes.mp hr
    have := good_sub hp hs ((within_sub h1 hs).mp hw) h
    rw [(isClash_iff.mp h2).1] at this
    cases this
theorem clashIn_some {p : Plan} {s t : List Int} (h : clashIn p s = some t) : t ∈ clashesOf p := (List.mem_filter.mp (headMin_some h)).1
/-- a clash lies within no other -/
theorem clash_anti {p : Plan} (hp : p.Ok) {r t : List Int} (hr : r ∈ clashesOf p) (ht : t ∈ clashesOf p) (h : ∀ x ∈ t, x ∈ r) : t = r := by
  obtain ⟨h1, h2⟩ := mem_clashes.mp hr
  obtain ⟨h3, h4⟩ := mem_clashes.mp ht
  refine Classical.byContradiction fun c => ?_
  have := clash_part hp h1 h2 ((within_sub h3 h1).mp (within_iff.mpr h)) c
  rw [(isClash_iff.mp h4).1] at this
  cases this
theorem clashes_nodup (p : Plan) : (clashesOf p).Nodup := (sortR_perm _).symm.nodup ((subs_nodup _).filter _)
theorem clashIn_self {p : Plan} (hp : p.Ok) {r : List Int} (hr : r ∈ clashesOf p) : clashIn p r = some r := by
  unfold clashIn
  have e : (clashesOf p).filter (fun t => within t r) = [r] := by
    have h1 : ∀ t ∈ (clashesOf p).filter (fun t => within t r), t = r := fun t ht => clash_anti hp hr (List.mem_filter.mp ht).1 (within_iff.mp (List.mem_filter.mp ht).2)
    have h2 : r ∈ (clashesOf p).filter (fun t => within t r) := List.mem_filter.mpr ⟨hr, within_iff.mpr fun x hx => hx⟩
    have nd := (clashes_nodup p).filter (fun t => within t r)
    generalize (clashesOf p).filter (fun t => within t r) = l at h1 h2 nd
    match l, h1, h2, nd with
    | [a], h1, _, _ => rw [h1 a List.mem_cons_self]
    | a :: b :: l, h1, _, nd =>
      have e1 := h1 a List.mem_cons_self
      have e2 := h1 b (List.mem_cons_of_mem _ List.mem_cons_self)
      rw [e1, e2] at nd
      simp at nd
  rw [e]
  rfl
/-- clashes of three and more have no reason of rest -/
theorem clash_norest {p : Plan} (hp : p.Ok) {r : List Int} (hr : r ∈ clashesOf p) (h3 : 2 < r.length) (a b : Int) : Reason.rest a b ∉ against p r := by
  intro h
  obtain ⟨h1, h2⟩ := mem_clashes.mp hr
  rw [mem_rest] at h
  obtain ⟨ha, hb, hp1, hn⟩ := h
  have hab : a < b := by
    unfold aPair at hp1
    rw [Bool.and_eq_true, decide_eq_true_iff] at hp1
    exact hp1.1
  have hs : SomeOk p [a, b] := by
    refine ⟨fun x hx => ?_, fun x hx => ?_, ?_⟩
    · rcases List.mem_cons.mp hx with e | e
      · rw [e]; exact h1.lo a ha
      · rw [List.mem_singleton.mp e]; exact h1.lo b hb
    · rcases List.mem_cons.mp hx with e | e
      · rw [e]; exact h1.hi a ha
      · rw [List.mem_singleton.mp e]; exact h1.hi b hb
    · simp [asc, hab]
  have hsub : [a, b].Sublist r := sub_of_mem hs.as h1.as fun x hx => by
    rcases List.mem_cons.mp hx with e | e
    · rw [e]; exact ha
    · rw [List.mem_singleton.mp e]; exact hb
  have hg := clash_part hp h1 h2 hsub fun e => by rw [← e] at h3; simp at h3
  rw [good_iff] at hg
  exact hg (.rest a b) (mem_rest.mpr ⟨List.mem_cons_self, List.mem_cons_of_mem _ List.mem_cons_self, hp1, hn⟩)
/-! what to refuse -/
theorem mem_others {p : Plan} {s : List Int} {x : Int} : x ∈ others p s ↔ (0 ≤ x ∧ x < p.wishes.length) ∧ x ∉ s := by
  unfold others
  rw [List.mem_filter, rangeD_mem, decide_eq_true_iff]
  constructor
  · rintro ⟨⟨h1, h2⟩, h3⟩; exact ⟨⟨h1, by omega⟩, h3⟩
  · rintro ⟨⟨h1, h2⟩, h3⟩; exact ⟨⟨h1, by omega⟩, h3⟩
theorem others_some (p : Plan) (s : List Int) : SomeOk p (others p s) := ⟨fun x hx => (mem_others.mp hx).1.1, fun x hx => (mem_others.mp hx).1.2, asc_sub List.filter_sublist (asc_range _ _)⟩
theorem others_others {p : Plan} {s : List Int} (hs : SomeOk p s) : others p (others p s) = s := asc_ext (others_some p _).as hs.as fun x => by
  rw [mem_others, mem_others]
  constructor
  · rintro ⟨h1, h2⟩
    exact Classical.byContradiction fun c => h2 ⟨h1, c⟩
  · intro h
    exact ⟨⟨hs.lo x h, hs.hi x h⟩, fun c => c.2 h⟩
theorem filter_split {α : Type} (q : α → Bool) : ∀ l : List α, (l.filter q).length + (l.filter fun x => !q x).length = l.length
  | [] => rfl
  | a :: l => by
    have ih := filter_split q l
    cases c : q a
    · rw [List.filter_cons_of_neg (by simp [c]), List.filter_cons_of_pos (by simp [c])]
      simp only [List.length_cons]; omega
    · rw [List.filter_cons_of_pos c, List.filter_cons_of_neg (by simp [c])]
      simp only [List.length_cons]; omega
theorem others_len {p : Plan} {s : List Int} (hs : SomeOk p s) : (others p s).length + s.length = p.wishes.length := by
  have e : s = (rangeD 0 p.wishes.length).filter fun x => !decide (x ∉ s) := asc_ext hs.as (asc_sub List.filter_sublist (asc_range _ _)) fun x => by
    rw [List.mem_filter, rangeD_mem]
    simp only [decide_not, Bool.not_not, decide_eq_true_eq]
    exact ⟨fun h => ⟨⟨hs.lo x h, by have := hs.hi x h; omega⟩, h⟩, fun h => h.2⟩
  have h := filter_split (fun x => decide (x ∉ s)) (rangeD 0 p.wishes.length)
  rw [rangeD_len, ← e] at h
  exact h
theorem refuse_is {p : Plan} (hp : p.Ok) : ∃ g ∈ largest p, toRefuse p = others p g := by
  unfold toRefuse
  cases q : headMin (fun a b : List Int => decide (a < b)) ((largest p).map (others p)) with
  | none =>
    rw [headMin_none] at q
    exact absurd (List.map_eq_nil_iff.mp q) (largest_ne hp)
  | some a =>
    obtain ⟨g, hg, e⟩ := List.mem_map.mp (headMin_some q)
    exact ⟨g, hg, e.symm⟩
theorem refuse_good {p : Plan} (hp : p.Ok) : others p (toRefuse p) ∈ largest p := by
  obtain ⟨g, hg, e⟩ := refuse_is hp
  rw [e, others_others (mem_largest.mp hg).1.1]
  exact hg
/-- it meets every clash -/
theorem refuse_meets {p : Plan} (hp : p.Ok) {r : List Int} (hr : r ∈ clashesOf p) : ∃ x ∈ r, x ∈ toRefuse p := by
  refine Classical.byContradiction fun c => ?_
  obtain ⟨h1, h2⟩ := mem_clashes.mp hr
  have hg := mem_largest.mp (refuse_good hp)
  have hs : r.Sublist (others p (toRefuse p)) := sub_of_mem h1.as hg.1.1.as fun x hx => mem_others.mpr ⟨⟨h1.lo x hx, h1.hi x hx⟩, fun hm => c ⟨x, hx, hm⟩⟩
  have := good_sub hp hg.1.1 hs hg.1.2
  rw [(isClash_iff.mp h2).1] at this
  cases this
/-- but not with fewer -/
theorem refuse_less {p : Plan} (hp : p.Ok) {i : Nat} (hi : i < (toRefuse p).length) : ∃ r ∈ clashesOf p, ∀ x ∈ r, x ∉ less (toRefuse p) i := by
  obtain ⟨g, hg, e⟩ := refuse_is hp
  have hg' := mem_largest.mp hg
  have ho : SomeOk p (toRefuse p) := by rw [e]; exact others_some p g
  have hl := ho.sub (less_sub (toRefuse p) i)
  have hb : good p (others p (less (toRefuse p) i)) = false := by
    cases c : good p (others p (less (toRefuse p) i)) with
    | false => rfl
    | true =>
      have h1 := le_most (others_some p _) c
      have h2 := others_len hl
      have h3 := less_len hi
      have h4 := others_len hg'.1.1
      rw [← e] at h4
      have h5 := hg'.2
      omega
  obtain ⟨t, h1, h2⟩ := clash_ex hp _ _ (Nat.le_refl _) (others_some p _) hb
  exact ⟨t, mem_clashes.mpr ⟨(others_some p _).sub h1, h2⟩, fun x hx => (mem_others.mp (h1.subset hx)).2⟩
/-! clashes apart -/
theorem apart_le : ∀ (n : Nat) (l : List (List Int)) (out : List Int), l.length ≤ n → (∀ r ∈ l, ∃ x ∈ r, x ∈ out) → mostApart l ≤ out.length
  | _, [], out, _, _ => by rw [mostApart_nil]; exact Nat.zero_le _
  | 0, a :: l, out, h, _ => by simp at h
  | n + 1, a :: l, out, h, k => by
    have hn : l.length ≤ n := by simpa using h
    rw [mostApart_cons]
    have h1 := apart_le n l out hn fun r hr => k r (List.mem_cons_of_mem _ hr)
    obtain ⟨x, hx, ho⟩ := k a List.mem_cons_self
    have h2 := apart_le n (free a l) (out.erase x) (Nat.le_trans (List.length_filter_le ..) hn) fun r hr => by
      obtain ⟨hm, hf⟩ := List.mem_filter.mp hr
      obtain ⟨y, hy, hyo⟩ := k r (List.mem_cons_of_mem _ hm)
      refine ⟨y, hy, (List.mem_erase_of_ne fun e => ?_).mpr hyo⟩
      subst e
      rw [Bool.not_eq_true', ← Bool.not_eq_true] at hf
      exact hf (List.any_eq_true.mpr ⟨y, hy, decide_eq_true hx⟩)
    have h3 : (out.erase x).length = out.length - 1 := List.length_erase_of_mem ho
    have h4 : 0 < out.length := List.length_pos_of_mem ho
    omega
theorem apart_refuse {p : Plan} (hp : p.Ok) : mostApart (clashesOf p) ≤ (toRefuse p).length := apart_le _ _ _ (Nat.le_refl _) fun r hr => refuse_meets hp hr
theorem apart_zero (l : List (List Int)) : mostApart l = 0 ↔ l = [] := by
  cases l with
  | nil => exact ⟨fun _ => rfl, fun _ => rfl⟩
  | cons a l =>
    rw [mostApart_cons]
    constructor
    · intro h; omega
    · intro h; cases h
theorem best_at {p : Plan} (hp : p.Ok) : atI ((largest p).map eT) 0 = some (eT (best p)) := by
  unfold best
  cases q : largest p with
  | nil => exact absurd q (largest_ne hp)
  | cons a l => exact atI_nat (j := 0) rfl
theorem best_mem {p : Plan} (hp : p.Ok) : best p ∈ largest p := by
  unfold best
  cases q : largest p with
  | nil => exact absurd q (largest_ne hp)
  | cons a l => exact List.mem_cons_self
theorem best_len {p : Plan} (hp : p.Ok) : (best p).length = mostGranted p := (mem_largest.mp (best_mem hp)).2
def c_law_least : Ct := ⟨Plan, fun p => [eP p, .tuple ((clashesOf p).map eT), eT (toRefuse p)], fun p => p.Ok, fun _ => Eq (.bool true)⟩
def kindS : Reason → Str
  | .light _ => "light"
  | .rest _ _ => "rest"
  | .value _ _ => "value"
def eRl : Reason → List PyData
  | .light i => [.str "light", .int i]
  | .rest a b => [.str "rest", .int a, .int b]
  | .value h k => [.str "value", .int h, .int k]
theorem eR_l (r : Reason) : eR r = .tuple (eRl r) := by cases r <;> rfl
theorem eRl_0 (r : Reason) : atI (eRl r) 0 = some (.str (kindS r)) := by cases r <;> exact atI_nat (j := 0) rfl
theorem shp_kind (r : Reason) : Shp 0 (.str (kindS r)) := by cases r <;> first | exact shp_light | exact shp_rest | exact shp_value
def isRest : Reason → Bool
  | .rest _ _ => true
  | _ => false
def isLight : Reason → Bool
  | .light _ => true
  | _ => false
def isValue : Reason → Bool
  | .value _ _ => true
  | _ => false
theorem eqv_rest (r : Reason) : PyData.eqv (.str (kindS r)) (.str "rest") = isRest r := by cases r <;> simp only [kindS, PyData.eqv, isRest, sne1, sne2, sne3, sne4, sne5, sne6, beq_self_eq_true]
theorem eqv_light (r : Reason) : PyData.eqv (.str (kindS r)) (.str "light") = isLight r := by cases r <;> simp only [kindS, PyData.eqv, isLight, sne1, sne2, sne3, sne4, sne5, sne6, beq_self_eq_true]
theorem eqv_value (r : Reason) : PyData.eqv (.str (kindS r)) (.str "value") = isValue r := by cases r <;> simp only [kindS, PyData.eqv, isValue, sne1, sne2, sne3, sne4, sne5, sne6, beq_self_eq_true]
theorem none_opt {α : Type} {e : α → PyData} (h : ∀ a, isNoneD (e a) = false) (o : Option α) : o.isNone = isNoneD (eOpt e o) := by cases o with
  | none => rfl
  | some a => exact (h a).symm
theorem en_optT : En (eOpt eT) 1 := en_opt en_T fun a => by simp [PyData.eqv]
theorem leastB (p : Plan) (hp : p.Ok) : ∀ (rows : List (List Int)) (out : List Int), rows = clashesOf p → out = toRefuse p → (rows.all fun r => r.any fun x => decide (x ∈ out)) = true := by
  rintro _ _ rfl rfl
  rw [List.all_eq_true]
  intro r hr
  obtain ⟨x, h1, h2⟩ := refuse_meets hp hr
  exact List.any_eq_true.mpr ⟨x, h1, decide_eq_true h2⟩
end Mus

namespace Mus
open PySem PySem.Spec PyProof.Rows L2 PL
/-! ## two plans with the same wishes -/
structure Two (p q : Plan) : Prop where
  okp : p.Ok
  okq : q.Ok
  ws : q.wishes = p.wishes
theorem Two.symm {p q : Plan} (h : Two p q) : Two q p := ⟨h.okq, h.okp, h.ws.symm⟩
theorem Two.some {p q : Plan} (h : Two p q) {s : List Int} (hs : SomeOk p s) : SomeOk q s := ⟨hs.lo, fun x hx => by rw [h.ws]; exact hs.hi x hx, hs.as⟩
def partRows (p q : Plan) : List (List Int) := (subs p.wishes.length).filter fun r => good p r != good q r
def parting (p q : Plan) : Option (List Int) := headMin lenLt (partRows p q)
def stricter (p q : Plan) : Bool := (goodOnes p).all fun r => decide (r ∈ goodOnes q)
theorem lenLt_iff {a b : List Int} : lenLt a b = true ↔ a.length < b.length ∨ (a.length = b.length ∧ a < b) := by
  unfold lenLt
  split
  · rename_i h
    rw [decide_eq_true_iff]
    constructor
    · intro k; exact Or.inr ⟨h, k⟩
    · rintro (k | k)
      · omega
      · exact k.2
  · rename_i h
    rw [decide_eq_true_iff]
    constructor
    · intro k; exact Or.inl k
    · rintro (k | k)
      · exact k
      · exact absurd k.1 h
theorem lenLt_no {a b : List Int} : lenLt a b = false ↔ b.length < a.length ∨ (b.length = a.length ∧ ¬ a < b) := by
  rw [← Bool.not_eq_true, lenLt_iff]
  constructor
  · intro h
    by_cases c : b.length < a.length
    · exact Or.inl c
    · refine Or.inr ⟨?_, fun k => h (Or.inr ⟨?_, k⟩)⟩
      · have : ¬ a.length < b.length := fun k => h (Or.inl k)
        omega
      · have : ¬ a.length < b.length := fun k => h (Or.inl k)
        omega
  · rintro (h | ⟨h, k⟩) (g | ⟨g, f⟩)
    · omega
    · omega
    · omega
    · exact k f
theorem lenLt_trans (a b c : List Int) (h1 : lenLt a b = false) (h2 : lenLt b c = false) : lenLt a c = false := by
  rw [lenLt_no] at h1 h2 ⊢
  rcases h1 with h1 | ⟨h1, k1⟩
  · rcases h2 with h2 | ⟨h2, k2⟩
    · left; omega
    · left; omega
  · rcases h2 with h2 | ⟨h2, k2⟩
    · left; omega
    · right
      refine ⟨by omega, ?_⟩
      rw [List.not_lt] at k1 k2 ⊢
      exact List.le_trans k2 k1
theorem lenLt_asym (a b : List Int) (h : lenLt a b = true) : lenLt b a = false := by
  rw [lenLt_iff] at h
  rw [lenLt_no]
  rcases h with h | ⟨h, k⟩
  · exact Or.inl h
  · refine Or.inr ⟨h, ?_⟩
    rw [List.not_lt]
    exact List.le_of_lt k
theorem lenLt_irr (a : List Int) : lenLt a a = false := by
  rw [lenLt_no]
  exact Or.inr ⟨rfl, List.lt_irrefl a⟩
theorem minF_le {α : Type} {lt : α → α → Bool} (tr : ∀ a b c, lt a b = false → lt b c = false → lt a c = false) (as : ∀ a b, lt a b = true → lt b a = false) (ir : ∀ a, lt a a = false) : ∀ (l : List α) (a : α), ∀ y ∈ a :: l, lt y (minF lt a l) = false
  | [], a, y, hy => by rw [List.mem_singleton.mp hy]; exact ir a
  | b :: l, a, y, hy => by
    have ih := minF_le tr as ir l (if lt b a then b else a)
    have e : minF lt a (b :: l) = minF lt (if lt b a then b else a) l := rfl
    rw [e]
    have h0 := ih _ List.mem_cons_self
    rcases List.mem_cons.mp hy with q | q
    · subst q
      by_cases c : lt b y = true
      · rw [if_pos c] at h0 ⊢; exact tr _ _ _ (as _ _ c) h0
      · rw [if_neg c] at h0 ⊢; exact h0
    · rcases List.mem_cons.mp q with q | q
      · subst q
        by_cases c : lt y a = true
        · rw [if_pos c] at h0 ⊢; exact h0
        · rw [if_neg c] at h0 ⊢; exact tr _ _ _ (by simpa using c) h0
      · exact ih y (List.mem_cons_of_mem _ q)
theorem headMin_le {α : Type} {lt : α → α → Bool} (tr : ∀ a b c, lt a b = false → lt b c = false → lt a c = false) (as : ∀ a b, lt a b = true → lt b a = false) (ir : ∀ a, lt a a = false) {l : List α} {m : α} (h : headMin lt l = some m) : ∀ y ∈ l, lt y m = false := by
  cases l with
  | nil => cases h
  | cons a l => rw [← Option.some.inj h]; exact minF_le tr as ir l a
def alike2 (p q : Plan) : Prop := ∀ s, SomeOk p s → good p s = good q s
theorem clash_congr {p q : Plan} (h : Two p q) (a : alike2 p q) {s : List Int} (hs : SomeOk p s) : isClash p s = isClash q s := by
  unfold isClash
  rw [a s hs]
  congr 1
  rw [Bool.eq_iff_iff, List.all_eq_true, List.all_eq_true]
  exact forall_congr' fun i => by rw [a _ (hs.sub (less_sub s i))]
theorem clashes_congr {p q : Plan} (h : Two p q) (a : alike2 p q) : clashesOf p = clashesOf q := by
  unfold clashesOf
  rw [h.ws]
  exact congrArg sortR (List.filter_congr fun s hs => clash_congr h a (subs_some.mp hs))
theorem same_iff {p q : Plan} (h : Two p q) : clashesOf p = clashesOf q ↔ alike2 p q := by
  refine ⟨fun e s hs => ?_, clashes_congr h⟩
  have key : ∀ {p q : Plan}, Two p q → clashesOf p = clashesOf q → ∀ s, SomeOk p s → good p s = false → good q s = false := fun {p q} h e s hs hg => by
    obtain ⟨t, h1, h2⟩ := clash_ex h.okp _ s (Nat.le_refl _) hs hg
    have hm : t ∈ clashesOf q := by rw [← e]; exact mem_clashes.mpr ⟨hs.sub h1, h2⟩
    have hq := mem_clashes.mp hm
    cases c : good q s with
    | false => rfl
    | true =>
      have := good_sub h.okq (h.some hs) h1 c
      rw [(isClash_iff.mp hq.2).1] at this
      cases this
  cases c : good p s with
  | false => exact (key h e s hs c).symm
  | true =>
    cases d : good q s with
    | true => rfl
    | false =>
      have := key h.symm e.symm s (h.some hs) d
      rw [c] at this
      cases this
theorem mem_part {p q : Plan} {s : List Int} : s ∈ partRows p q ↔ SomeOk p s ∧ good p s ≠ good q s := by
  unfold partRows
  rw [List.mem_filter, subs_some]
  exact and_congr Iff.rfl bne_iff_ne
theorem part_none {p q : Plan} : (parting p q).isNone = true ↔ alike2 p q := by
  rw [Option.isNone_iff_eq_none]
  unfold parting
  rw [headMin_none, List.eq_nil_iff_forall_not_mem]
  constructor
  · intro k s hs
    exact Classical.byContradiction fun c => k s (mem_part.mpr ⟨hs, c⟩)
  · intro k s hm
    obtain ⟨h1, h2⟩ := mem_part.mp hm
    exact h2 (k s h1)
theorem part_symm {p q : Plan} (h : Two p q) : parting q p = parting p q := by
  unfold parting partRows
  rw [h.ws]
  exact congrArg _ (List.filter_congr fun s _ => by rw [Bool.eq_iff_iff, bne_iff_ne, bne_iff_ne]; exact ne_comm)
theorem part_less {p q : Plan} {r : List Int} (h : parting p q = some r) {i : Nat} (hi : i < r.length) : good p (less r i) = good q (less r i) := by
  obtain ⟨h1, h2⟩ := mem_part.mp (headMin_some h)
  refine Classical.byContradiction fun c => ?_
  have := headMin_le lenLt_trans lenLt_asym lenLt_irr h (less r i) (mem_part.mpr ⟨h1.sub (less_sub r i), c⟩)
  rw [lenLt_no] at this
  have := less_len hi
  omega
theorem stricter_iff {p q : Plan} (h : Two p q) : stricter p q = true ↔ ∀ s, SomeOk p s → good p s = true → good q s = true := by
  unfold stricter
  rw [List.all_eq_true]
  constructor
  · intro k s hs hg
    exact (mem_good.mp (of_decide_eq_true (k s (mem_good.mpr ⟨hs, hg⟩)))).2
  · intro k s hm
    obtain ⟨h1, h2⟩ := mem_good.mp hm
    exact decide_eq_true (mem_good.mpr ⟨h.some h1, k s h1 h2⟩)
theorem same_strict {p q : Plan} (h : Two p q) : (stricter p q && stricter q p) = decide (clashesOf p = clashesOf q) := by
  rw [Bool.eq_iff_iff, Bool.and_eq_true, decide_eq_true_iff, same_iff h, stricter_iff h, stricter_iff h.symm]
  constructor
  · rintro ⟨k1, k2⟩ s hs
    rw [Bool.eq_iff_iff]
    exact ⟨k1 s hs, k2 s (h.some hs)⟩
  · intro k
    exact ⟨fun s hs hg => by rw [← k s hs]; exact hg, fun s hs hg => by rw [k s (h.symm.some hs)]; exact hg⟩
theorem most_strict {p q : Plan} (h : Two p q) (k : stricter p q = true) : mostGranted p ≤ mostGranted q := by
  have hb := mem_largest.mp (best_mem h.okp)
  have := le_most (h.some hb.1.1) ((stricter_iff h).mp k _ hb.1.1 hb.1.2)
  rw [best_len h.okp] at this
  exact this
theorem Two.refl {p : Plan} (h : p.Ok) : Two p p := ⟨h, h, rfl⟩
theorem two_lim {p : Plan} (h : p.Ok) {ls : List Int} (hl : ls.length = p.houses.length) (hb : ∀ x ∈ ls, 0 ≤ x ∧ x ≤ 40) : Two p ⟨ls, p.objects, p.wishes⟩ := by
  refine ⟨h, ⟨by show 1 ≤ ls.length; rw [hl]; exact h.h1, by show ls.length ≤ 4; rw [hl]; exact h.h4, hb, h.o1, h.o4, fun o ho => ?_, h.w8, fun w hw => ?_⟩, rfl⟩
  · show o.Ok ls.length
    rw [hl]; exact h.os o ho
  · obtain ⟨a, b, c, d, e, f, g, i⟩ := h.ws w hw
    exact ⟨a, by show w.house < (ls.length : Nat); rw [hl]; exact b, c, d, e, f, g, i⟩
theorem two_obj {p : Plan} (h : p.Ok) {os : List Obj} (hm : os.map Obj.home = p.objects.map Obj.home) (hb : ∀ o ∈ os, o.Ok p.houses.length) : Two p ⟨p.houses, os, p.wishes⟩ := by
  have hl : os.length = p.objects.length := by have := congrArg List.length hm; simpa using this
  refine ⟨h, ⟨h.h1, h.h4, h.hs, by show 1 ≤ os.length; rw [hl]; exact h.o1, by show os.length ≤ 4; rw [hl]; exact h.o4, hb, h.w8, fun w hw => ?_⟩, rfl⟩
  obtain ⟨a, b, c, d, e, f, g, i⟩ := h.ws w hw
  refine ⟨a, b, c, by show w.item < (os.length : Nat); rw [hl]; exact d, ?_, f, g, i⟩
  have e1 : ((⟨p.houses, os, p.wishes⟩ : Plan).obj w.item).home = (p.obj w.item).home := by
    unfold Plan.obj
    have h1 := getD_map Obj.home os w.item.toNat ⟨0, 0, 0, 0⟩ 0 (by omega)
    have h2 := getD_map Obj.home p.objects w.item.toNat ⟨0, 0, 0, 0⟩ 0 (by omega)
    rw [← h1, ← h2, hm]
  rw [e1]; exact e
def wider (p : Plan) : Plan := ⟨p.houses.map fun x => x + 3, p.objects, p.wishes⟩
theorem wider_two {p : Plan} (h : p.Ok) (hd : p.Dr) : Two p (wider p) := two_lim h (by simp) fun x hx => by
  obtain ⟨y, hy, rfl⟩ := List.mem_map.mp hx
  have := hd.hs y hy
  omega
theorem wider_strict {p : Plan} (h : p.Ok) (hd : p.Dr) : stricter p (wider p) = true := by
  rw [stricter_iff (wider_two h hd)]
  intro s hs hg
  refine good_mono (q := wider p) h ⟨rfl, by simp [wider], rfl, fun x h0 h1 => ?_, fun _ _ _ => ⟨Int.le_refl _, Int.le_refl _, rfl⟩⟩ hs.rng (List.Sublist.refl _) hg
  have e : (wider p).lim x = p.lim x + 3 := by
    unfold Plan.lim wider
    exact getD_map _ _ _ _ _ (by omega)
  rw [e]; omega
def c_check_two : Ct := ⟨Plan × Plan, fun a => [eP a.1, eP a.2], fun a => Two a.1 a.2, fun _ => Eq .none⟩
def c_allow_same : Ct := ⟨Plan × Plan, fun a => [eP a.1, eP a.2], fun a => Two a.1 a.2, fun a => Eq (.bool (decide (clashesOf a.1 = clashesOf a.2)))⟩
def c_parting_wishes : Ct := ⟨Plan × Plan, fun a => [eP a.1, eP a.2], fun a => Two a.1 a.2, fun a => Eq (eOpt eT (parting a.1 a.2))⟩
def c_is_stricter : Ct := ⟨Plan × Plan, fun a => [eP a.1, eP a.2], fun a => Two a.1 a.2, fun a => Eq (.bool (stricter a.1 a.2))⟩
def c_law_told : Ct := ⟨Plan × Plan × List Int, fun a => [eP a.1, eP a.2.1, eT a.2.2], fun a => Two a.1 a.2.1 ∧ SomeOk a.1 a.2.2, fun _ => Eq (.bool true)⟩
end Mus

namespace Mus
open PySem PySem.Spec PyProof.Rows L2 PL
/-! ## good wishes, as a list of wishes -/
theorem areGood_cong {p q : Plan} (h : q.houses = p.houses) (o : q.objects = p.objects) (ws : List Wish) : areGood q ws = areGood p ws := by
  obtain ⟨a, b, c⟩ := p
  obtain ⟨a', b', c'⟩ := q
  simp only at h o
  subst h; subst o
  rfl
theorem doRest_symm (a b : Wish) (r : Int) : doRest a b r = doRest b a r := by
  unfold doRest
  rw [Bool.or_comm]
theorem tiredB_symm (p : Plan) (a b : Wish) : tiredB p a b = tiredB p b a := by
  unfold tiredB
  by_cases h : a.item = b.item
  · rw [h, doRest_symm]
  · rw [decide_eq_false h, decide_eq_false (fun e => h e.symm)]
    rfl
theorem tired_nil {p : Plan} {ws : List Wish} : (tired p ws).isEmpty = true ↔ ws.Pairwise fun a b => tiredB p a b = false := by
  rw [List.isEmpty_iff, List.eq_nil_iff_forall_not_mem, List.pairwise_iff_getElem]
  constructor
  · intro h i j hi hj hij
    refine Classical.byContradiction fun c => ?_
    refine h ((i : Int), (j : Int)) ?_
    unfold tired
    rw [List.mem_flatMap]
    refine ⟨(ws[i], i), ?_, ?_⟩
    · rw [List.mem_zipIdx_iff_getElem?]
      exact List.getElem?_eq_getElem hi
    · rw [List.mem_map]
      refine ⟨(j : Int), ?_, rfl⟩
      unfold tiredRow
      rw [List.mem_filter, rangeD_mem]
      refine ⟨⟨by show (i : Int) + 1 ≤ j; omega, by show (j : Int) < (i : Int) + 1 + (((ws.length : Int) - ((i : Int) + 1)).toNat : Nat); omega⟩, ?_⟩
      rw [wAt_nat (List.getElem?_eq_getElem hj)]
      simpa using c
  · intro h x hx
    obtain ⟨h1, h2, h3, h4⟩ := tired_mem hx
    obtain ⟨i, hi⟩ : ∃ i : Nat, x.1 = i := ⟨x.1.toNat, by omega⟩
    obtain ⟨j, hj⟩ : ∃ j : Nat, x.2 = j := ⟨x.2.toNat, by omega⟩
    rw [hi, hj] at h4
    have l1 : i < ws.length := by omega
    have l2 : j < ws.length := by omega
    rw [wAt_nat (List.getElem?_eq_getElem l1), wAt_nat (List.getElem?_eq_getElem l2)] at h4
    rw [h i j l1 l2 (by omega)] at h4
    cases h4
theorem bleached_nil {p : Plan} {ws : List Wish} : (bleached p ws).isEmpty = true ↔ ∀ i : Int, 0 ≤ i → i < p.objects.length → weeksOf ws i ≤ (p.obj i).light := by
  unfold bleached
  rw [List.isEmpty_iff, List.filter_eq_nil_iff]
  constructor
  · intro h i h0 h1
    have := h i (rangeD_mem.mpr (by omega))
    rw [decide_eq_true_iff] at this
    omega
  · intro h i hi
    have := rangeD_mem.mp hi
    have := h i this.1 (by omega)
    rw [decide_eq_true_iff]
    omega
theorem crowded_nil {p : Plan} {ws : List Wish} : (crowded p ws).isEmpty = true ↔ ∀ h k : Int, 0 ≤ h → h < p.houses.length → 0 ≤ k → k ≤ 60 → valueAt p ws h k ≤ p.lim h := by
  unfold crowded
  rw [flatMap_nil', List.all_eq_true]
  constructor
  · intro g h k h0 h1 k0 k1
    have hl : h.toNat < p.houses.length := by omega
    have := g (p.houses[h.toNat], h.toNat) (by rw [List.mem_zipIdx_iff_getElem?]; exact List.getElem?_eq_getElem hl)
    rw [List.isEmpty_map, List.isEmpty_iff] at this
    unfold crowdRow at this
    rw [List.filter_eq_nil_iff] at this
    have := this k (rangeD_mem.mpr (by omega))
    rw [decide_eq_true_iff] at this
    have e1 : ((h.toNat : Nat) : Int) = h := by omega
    have e2 : p.lim h = p.houses[h.toNat] := by
      unfold Plan.lim
      rw [List.getD, List.getElem?_eq_getElem hl]; rfl
    rw [e1] at this
    omega
  · intro g x hx
    obtain ⟨i, hi⟩ := List.getElem?_of_mem hx
    obtain ⟨h1, h2⟩ := zipIdx_get hi
    have hl := (List.getElem?_eq_some_iff.mp h1).1
    rw [List.isEmpty_map, List.isEmpty_iff]
    unfold crowdRow
    rw [List.filter_eq_nil_iff]
    intro k hk
    have hk' := rangeD_mem.mp hk
    have := g (x.2 : Int) k (by omega) (by omega) (by omega) (by omega)
    have e2 : p.lim (x.2 : Int) = x.1 := by
      unfold Plan.lim
      rw [h2, Int.toNat_natCast, List.getD, h1]; rfl
    rw [decide_eq_true_iff]
    omega
structure Fine (p : Plan) (ws : List Wish) : Prop where
  rest : ws.Pairwise fun a b => tiredB p a b = false
  light : ∀ i : Int, 0 ≤ i → i < p.objects.length → weeksOf ws i ≤ (p.obj i).light
  value : ∀ h k : Int, 0 ≤ h → h < p.houses.length → 0 ≤ k → k ≤ 60 → valueAt p ws h k ≤ p.lim h
theorem areGood_iff {p : Plan} {ws : List Wish} (hp : p.Ok) (hw : GoodWs p ws) : areGood p ws = true ↔ Fine p ws := by
  unfold areGood
  rw [good_crowded hp hw, Bool.and_eq_true, Bool.not_eq_true', Bool.or_eq_false_iff, Bool.not_eq_false', Bool.not_eq_false', tired_nil, bleached_nil, crowded_nil]
  exact ⟨fun ⟨⟨a, b⟩, c⟩ => ⟨a, b, c⟩, fun ⟨a, b, c⟩ => ⟨⟨a, b⟩, c⟩⟩
theorem sum_perm {a b : List Int} (h : a.Perm b) : a.sum = b.sum := by
  induction h with
  | nil => rfl
  | cons x _ ih => rw [List.sum_cons, List.sum_cons, ih]
  | swap x y l => rw [List.sum_cons, List.sum_cons, List.sum_cons, List.sum_cons]; omega
  | trans _ _ ih1 ih2 => exact ih1.trans ih2
theorem weeksOf_perm {a b : List Wish} (h : a.Perm b) (i : Int) : weeksOf a i = weeksOf b i := sum_perm ((h.filter _).map _)
theorem valueAt_perm {p : Plan} {a b : List Wish} (h : a.Perm b) (x k : Int) : valueAt p a x k = valueAt p b x k := sum_perm ((h.filter _).map _)
theorem Fine.perm {p : Plan} {a b : List Wish} (h : a.Perm b) (f : Fine p a) : Fine p b :=
  ⟨(h.pairwise_iff fun {x y} e => by rw [tiredB_symm]; exact e).mp f.rest, fun i h0 h1 => by rw [← weeksOf_perm h]; exact f.light i h0 h1, fun x k a1 a2 a3 a4 => by rw [← valueAt_perm h]; exact f.value x k a1 a2 a3 a4⟩
theorem GoodWs.perm {p : Plan} {a b : List Wish} (h : a.Perm b) (g : GoodWs p a) : GoodWs p b := ⟨fun w hw => g.it w (h.mem_iff.mpr hw), fun w hw => g.wk w (h.mem_iff.mpr hw)⟩
theorem areGood_perm {p : Plan} {a b : List Wish} (hp : p.Ok) (g : GoodWs p a) (h : a.Perm b) : areGood p a = areGood p b := by
  rw [Bool.eq_iff_iff, areGood_iff hp g, areGood_iff hp (g.perm h)]
  exact ⟨Fine.perm h, Fine.perm h.symm⟩
theorem named_gw {p : Plan} {s : List Int} (hp : p.Ok) (h : InRng p s) : GoodWs p (named p s) := by
  refine ⟨fun w hw => ?_, fun w hw => ?_⟩
  all_goals
    obtain ⟨x, hx, rfl⟩ := List.mem_map.mp hw
    have := hp.ws _ (p.wish_mem (h x hx).1 (h x hx).2)
  · exact ⟨this.i0, this.i1⟩
  · exact ⟨this.f0, this.fl, this.l1⟩
/-! ## a plan without one of its wishes -/
def skip (w i : Int) : Int := if i < w then i else i + 1
def unskip (w x : Int) : Int := if x < w then x else x - 1
theorem skip_ne (w i : Int) : skip w i ≠ w := by unfold skip; split <;> omega
theorem skip_lt {w i j : Int} (h : i < j) : skip w i < skip w j := by unfold skip; split <;> split <;> omega
theorem skip_un {w x : Int} (h : x ≠ w) : skip w (unskip w x) = x := by
  unfold skip unskip
  by_cases c : x < w
  · rw [if_pos c, if_pos c]
  · rw [if_neg c, if_neg (by omega)]; omega
theorem unskip_lt {w x y : Int} (hx : x ≠ w) (hy : y ≠ w) (h : x < y) : unskip w x < unskip w y := by unfold unskip; split <;> split <;> omega
theorem skip_inj {w i j : Int} (h : skip w i = skip w j) : i = j := by unfold skip at h; split at h <;> split at h <;> omega
/-- q is p without the wish w -/
structure Wo (q p : Plan) (w : Int) : Prop where
  okq : q.Ok
  okp : p.Ok
  hh : q.houses = p.houses
  ho : q.objects = p.objects
  len : (q.wishes.length : Int) + 1 = p.wishes.length
  w0 : 0 ≤ w
  w1 : w < p.wishes.length
  ws : ∀ i : Int, 0 ≤ i → i < q.wishes.length → q.wish i = p.wish (skip w i)
theorem Wo.to {q p : Plan} {w : Int} (h : Wo q p w) {s : List Int} (hs : SomeOk q s) : SomeOk p (s.map (skip w)) ∧ w ∉ s.map (skip w) := by
  have hl := h.len
  refine ⟨⟨fun x hx => ?_, fun x hx => ?_, ?_⟩, fun hx => ?_⟩
  · obtain ⟨i, hi, rfl⟩ := List.mem_map.mp hx
    have := hs.lo i hi
    unfold skip; split <;> omega
  · obtain ⟨i, hi, rfl⟩ := List.mem_map.mp hx
    have := hs.hi i hi
    unfold skip; split <;> omega
  · rw [asc_iff, List.pairwise_map]
    exact ((asc_iff s).mp hs.as).imp fun h => skip_lt h
  · obtain ⟨i, _, e⟩ := List.mem_map.mp hx
    exact skip_ne w i e
theorem Wo.good {q p : Plan} {w : Int} (h : Wo q p w) {s : List Int} (hs : SomeOk q s) : good q s = Mus.good p (s.map (skip w)) := by
  rw [← good_eq h.okq hs, ← good_eq h.okp (h.to hs).1, areGood_cong h.hh h.ho]
  refine congrArg _ ?_
  unfold named
  rw [List.map_map]
  exact List.map_congr_left fun i hi => h.ws i (hs.lo i hi) (hs.hi i hi)
theorem Wo.back {q p : Plan} {w : Int} (h : Wo q p w) {t : List Int} (ht : SomeOk p t) (hw : w ∉ t) : SomeOk q (t.map (unskip w)) ∧ (t.map (unskip w)).map (skip w) = t := by
  have hl := h.len
  have hne : ∀ x ∈ t, x ≠ w := fun x hx e => hw (e ▸ hx)
  refine ⟨⟨fun x hx => ?_, fun x hx => ?_, ?_⟩, ?_⟩
  · obtain ⟨i, hi, rfl⟩ := List.mem_map.mp hx
    have := ht.lo i hi
    have := hne i hi
    have := h.w0
    unfold unskip; split <;> omega
  · obtain ⟨i, hi, rfl⟩ := List.mem_map.mp hx
    have := ht.hi i hi
    have := hne i hi
    have := h.w1
    unfold unskip; split <;> omega
  · rw [asc_iff, List.pairwise_map]
    exact ((asc_iff t).mp ht.as).imp_of_mem fun {a b} ha hb k => unskip_lt (hne a ha) (hne b hb) k
  · rw [List.map_map]
    refine (List.map_congr_left fun x hx => ?_).trans (List.map_id t)
    exact skip_un (hne x hx)
/-- rows of p that leave w out -/
theorem Wo.le {q p : Plan} {w : Int} (h : Wo q p w) {t : List Int} (ht : SomeOk p t) (hg : Mus.good p t = true) (hw : w ∉ t) : t.length ≤ mostGranted q := by
  obtain ⟨h1, h2⟩ := h.back ht hw
  have := le_most h1 (by rw [h.good h1, h2]; exact hg)
  rwa [List.length_map] at this
theorem Wo.ex {q p : Plan} {w : Int} (h : Wo q p w) : ∃ t, SomeOk p t ∧ Mus.good p t = true ∧ w ∉ t ∧ t.length = mostGranted q := by
  have hb := mem_largest.mp (best_mem h.okq)
  obtain ⟨h1, h2⟩ := h.to hb.1.1
  exact ⟨_, h1, by rw [← h.good hb.1.1]; exact hb.1.2, h2, by rw [List.length_map]; exact hb.2⟩
theorem perm_ext {α : Type} [DecidableEq α] : ∀ {l m : List α}, l.Nodup → m.Nodup → (∀ x, x ∈ l ↔ x ∈ m) → l.Perm m
  | [], m, _, _, h => by
    have : m = [] := List.eq_nil_iff_forall_not_mem.mpr fun x hx => by have := (h x).mpr hx; cases this
    rw [this]
  | a :: l, m, h1, h2, h => by
    obtain ⟨n1, n2⟩ := List.nodup_cons.mp h1
    have hm := (h a).mp List.mem_cons_self
    have p1 := List.perm_cons_erase hm
    refine (List.Perm.cons a (perm_ext n2 (h2.erase a) fun x => ?_)).trans p1.symm
    rw [h2.mem_erase_iff]
    constructor
    · intro hx
      exact ⟨fun e => n1 (e ▸ hx), (h x).mp (List.mem_cons_of_mem _ hx)⟩
    · rintro ⟨hx, hy⟩
      rcases List.mem_cons.mp ((h x).mpr hy) with e | e
      · exact absurd e hx
      · exact e
theorem largest_nodup (p : Plan) : (largest p).Nodup := (sortR_perm _).symm.nodup (((subs_nodup _).filter _).filter _)
/-- how many best rows, seen in p -/
theorem Wo.count {q p : Plan} {w : Int} (h : Wo q p w) : (largest q).length = ((goodOnes p).filter fun t => decide (w ∉ t) && decide (t.length = mostGranted q)).length := by
  have e : ((largest q).map (List.map (skip w))).Perm ((goodOnes p).filter fun t => decide (w ∉ t) && decide (t.length = mostGranted q)) := by
    refine perm_ext ?_ (((subs_nodup _).filter _).filter _) fun t => ?_
    · exact List.pairwise_map.mpr ((largest_nodup q).imp fun {a b} k e => k (List.map_inj_right (fun x y => skip_inj) |>.mp e))
    · rw [List.mem_map, List.mem_filter, mem_good, Bool.and_eq_true, decide_eq_true_iff, decide_eq_true_iff]
      constructor
      · rintro ⟨s, hs, rfl⟩
        obtain ⟨⟨h1, h2⟩, h3⟩ := mem_largest.mp hs
        obtain ⟨h4, h5⟩ := h.to h1
        exact ⟨⟨h4, by rw [← h.good h1]; exact h2⟩, h5, by rw [List.length_map]; exact h3⟩
      · rintro ⟨⟨h1, h2⟩, h3, h4⟩
        obtain ⟨h5, h6⟩ := h.back h1 h3
        exact ⟨_, mem_largest.mpr ⟨⟨h5, by rw [h.good h5, h6]; exact h2⟩, by rw [List.length_map]; exact h4⟩, h6⟩
  have := e.length_eq
  rwa [List.length_map] at this
end Mus

namespace Mus
open PySem PySem.Spec PyProof.Rows L2 PL
/-! ## roles -/
def isSure (p : Plan) (w : Int) : Bool := (largest p).all fun r => decide (w ∈ r)
def isAny (p : Plan) (w : Int) : Bool := (largest p).any fun r => decide (w ∈ r)
theorem any_of_sure {p : Plan} (hp : p.Ok) {w : Int} (h : isSure p w = true) : isAny p w = true := List.any_eq_true.mpr ⟨best p, best_mem hp, List.all_eq_true.mp h _ (best_mem hp)⟩
inductive Role where
  | sure
  | opn
  | lost
  deriving DecidableEq
def eRole : Role → Str
  | .sure => "sure"
  | .opn => "open"
  | .lost => "lost"
def roleR (p : Plan) (w : Int) : Role := if isSure p w then .sure else if isAny p w then .opn else .lost
theorem role_str (p : Plan) (w : Int) : roleOf p w = eRole (roleR p w) := by
  unfold roleOf roleR
  show (if isSure p w = true then _ else if isAny p w = true then _ else _) = _
  split
  · rfl
  · split <;> rfl
theorem rne1 : (("sure" : Str) == "open") = false := by decide +kernel
theorem rne2 : (("sure" : Str) == "lost") = false := by decide +kernel
theorem rne3 : (("open" : Str) == "sure") = false := by decide +kernel
theorem rne4 : (("open" : Str) == "lost") = false := by decide +kernel
theorem rne5 : (("lost" : Str) == "sure") = false := by decide +kernel
theorem rne6 : (("lost" : Str) == "open") = false := by decide +kernel
abbrev eRo (r : Role) : PyData := .str (eRole r)
theorem shp_ro (r : Role) : Shp 0 (eRo r) := by cases r <;> exact shp_str _ (by decide +kernel)
theorem en_ro : En eRo 0 := ⟨shp_ro, fun a b => by cases a <;> cases b <;> simp only [eRo, eRole, PyData.eqv, rne1, rne2, rne3, rne4, rne5, rne6, beq_self_eq_true] <;> rfl⟩
theorem role_sure {p : Plan} {w : Int} : roleR p w = .sure ↔ isSure p w = true := by
  unfold roleR
  split
  · rename_i h; simp [h]
  · rename_i h
    split <;> simp [h]
theorem role_lost {p : Plan} (hp : p.Ok) {w : Int} : roleR p w = .lost ↔ isAny p w = false := by
  unfold roleR
  split
  · rename_i h
    have := any_of_sure hp h
    simp [this]
  · split
    · rename_i h; simp [h]
    · rename_i h; simpa using h
theorem role_open {p : Plan} (hp : p.Ok) {w : Int} : roleR p w = .opn ↔ isSure p w = false ∧ isAny p w = true := by
  unfold roleR
  split
  · rename_i h; simp [h]
  · rename_i h
    split
    · rename_i h2; simp [h2]; simpa using h
    · rename_i h2; simp; intro _; simpa using h2
theorem sure_iff {p : Plan} {w : Int} : isSure p w = true ↔ ∀ r ∈ largest p, w ∈ r := by
  unfold isSure
  rw [List.all_eq_true]
  exact ⟨fun h r hr => of_decide_eq_true (h r hr), fun h r hr => decide_eq_true (h r hr)⟩
theorem any_iff {p : Plan} {w : Int} : isAny p w = true ↔ ∃ r ∈ largest p, w ∈ r := by
  unfold isAny
  rw [List.any_eq_true]
  exact ⟨fun ⟨r, h, k⟩ => ⟨r, h, of_decide_eq_true k⟩, fun ⟨r, h, k⟩ => ⟨r, h, decide_eq_true k⟩⟩
section
variable {q p : Plan} {w : Int}
theorem Wo.most_le (h : Wo q p w) : mostGranted q ≤ mostGranted p := by
  obtain ⟨t, h1, h2, _, h4⟩ := h.ex
  rw [← h4]; exact le_most h1 h2
theorem Wo.most_ge (h : Wo q p w) : mostGranted p ≤ mostGranted q + 1 := by
  have hb := mem_largest.mp (best_mem h.okp)
  have hs := hb.1.1.sub (List.filter_sublist (p := fun x => decide (x ≠ w)) (l := best p))
  have hg := good_sub h.okp hb.1.1 (List.filter_sublist (p := fun x => decide (x ≠ w)) (l := best p)) hb.1.2
  have h1 := h.le hs hg (by simp)
  have h2 : (best p).length ≤ ((best p).filter fun x => decide (x ≠ w)).length + 1 := by
    have nd := asc_nodup hb.1.1.as
    have e := filter_split (fun x => decide (x ≠ w)) (best p)
    have h3 : ((best p).filter fun x => !decide (x ≠ w)).length ≤ 1 := by
      have nd2 := nd.filter (fun x => !decide (x ≠ w))
      have hw : ∀ x ∈ (best p).filter (fun x => !decide (x ≠ w)), x = w := fun x hx => by simpa using (List.mem_filter.mp hx).2
      generalize (best p).filter (fun x => !decide (x ≠ w)) = l at nd2 hw
      match l, nd2, hw with
      | [], _, _ => exact Nat.zero_le _
      | [a], _, _ => exact Nat.le_refl _
      | a :: b :: l, nd2, hw =>
        rw [hw a List.mem_cons_self, hw b (List.mem_cons_of_mem _ List.mem_cons_self)] at nd2
        simp at nd2
    omega
  have h3 := hb.2
  omega
theorem Wo.sure (h : Wo q p w) : isSure p w = true ↔ mostGranted q + 1 = mostGranted p := by
  rw [sure_iff]
  constructor
  · intro k
    have h1 := h.most_le
    have h2 := h.most_ge
    by_cases c : mostGranted q = mostGranted p
    · obtain ⟨t, t1, t2, t3, t4⟩ := h.ex
      exact absurd (k t (mem_largest.mpr ⟨⟨t1, t2⟩, t4.trans c⟩)) t3
    · omega
  · intro e r hr
    obtain ⟨⟨h1, h2⟩, h3⟩ := mem_largest.mp hr
    refine Classical.byContradiction fun c => ?_
    have := h.le h1 h2 c
    omega
theorem Wo.not_sure (h : Wo q p w) (k : isSure p w = false) : mostGranted q = mostGranted p := by
  have h1 := h.most_le
  have h2 := h.most_ge
  have h3 := mt h.sure.mpr (by rw [k]; exact Bool.false_ne_true)
  omega
theorem Wo.count_ns (h : Wo q p w) (k : isSure p w = false) : (largest q).length = ((largest p).filter fun t => decide (w ∉ t)).length := by
  rw [h.count, h.not_sure k]
  unfold largest
  have e : ((sortR ((goodOnes p).filter fun r => decide (r.length = maxL (goodOnes p)))).filter fun t => decide (w ∉ t)).Perm (((goodOnes p).filter fun r => decide (r.length = maxL (goodOnes p))).filter fun t => decide (w ∉ t)) := (sortR_perm _).filter _
  rw [e.length_eq, List.filter_filter]
  rfl
theorem Wo.count_lost (h : Wo q p w) (k : isAny p w = false) : (largest q).length = (largest p).length := by
  have ns : isSure p w = false := by
    cases c : isSure p w with
    | false => rfl
    | true => rw [any_of_sure h.okp c] at k; cases k
  rw [h.count_ns ns, List.filter_eq_self.mpr fun t ht => ?_]
  rw [decide_eq_true_iff]
  intro hw
  have := any_iff.mpr ⟨t, ht, hw⟩
  rw [k] at this; cases this
theorem Wo.count_open (h : Wo q p w) (k : isSure p w = false) (k2 : isAny p w = true) : (largest q).length < (largest p).length := by
  rw [h.count_ns k]
  obtain ⟨t, ht, hw⟩ := any_iff.mp k2
  have e := filter_split (fun t => decide (w ∉ t)) (largest p)
  have : 0 < ((largest p).filter fun t => !decide (w ∉ t)).length := List.length_pos_of_mem (List.mem_filter.mpr ⟨ht, by simpa using hw⟩)
  omega
end
/-- one best row alone: no wish is open -/
theorem one_best {p : Plan} (hp : p.Ok) : (largest p).length = 1 ↔ ∀ w : Int, 0 ≤ w → w < p.wishes.length → roleR p w ≠ .opn := by
  constructor
  · intro h w _ _ ho
    obtain ⟨h1, h2⟩ := (role_open hp).mp ho
    obtain ⟨a, ha⟩ : ∃ a, largest p = [a] := by
      match largest p, h with
      | [a], _ => exact ⟨a, rfl⟩
    obtain ⟨r, hr, hw⟩ := any_iff.mp h2
    have : isSure p w = true := sure_iff.mpr fun s hs => by
      rw [ha] at hr hs
      rw [List.mem_singleton.mp hs, ← List.mem_singleton.mp hr]; exact hw
    rw [h1] at this; cases this
  · intro h
    match hl : largest p with
    | [] => exact absurd hl (largest_ne hp)
    | [a] => rfl
    | a :: b :: l =>
      exfalso
      have nd := largest_nodup p
      rw [hl] at nd
      have hab : a ≠ b := fun e => by subst e; simp at nd
      have ha := mem_largest.mp (show a ∈ largest p by rw [hl]; exact List.mem_cons_self)
      have hb := mem_largest.mp (show b ∈ largest p by rw [hl]; exact List.mem_cons_of_mem _ List.mem_cons_self)
      have ex : ∃ w ∈ a, w ∉ b := Classical.byContradiction fun c => by
        have hs := sub_of_mem ha.1.1.as hb.1.1.as fun x hx => Classical.byContradiction fun k => c ⟨x, hx, k⟩
        exact hab (hs.eq_of_length (ha.2.trans hb.2.symm))
      obtain ⟨w, h1, h2⟩ := ex
      refine h w (ha.1.1.lo w h1) (ha.1.1.hi w h1) ((role_open hp).mpr ⟨?_, any_iff.mpr ⟨a, by rw [hl]; exact List.mem_cons_self, h1⟩⟩)
      cases c : isSure p w with
      | false => rfl
      | true => exact absurd (sure_iff.mp c b (by rw [hl]; exact List.mem_cons_of_mem _ List.mem_cons_self)) h2
end Mus

namespace Mus
open PySem PySem.Spec PyProof.Rows L2 PL
/-! ## a wish more -/
def ins (p : Plan) (s : List Int) (x : Int) : List Int := (rangeD 0 p.wishes.length).filter fun y => decide (y ∈ s) || decide (y = x)
theorem mem_ins {p : Plan} {s : List Int} (hs : SomeOk p s) {x : Int} (h0 : 0 ≤ x) (h1 : x < p.wishes.length) {y : Int} : y ∈ ins p s x ↔ y ∈ s ∨ y = x := by
  unfold ins
  rw [List.mem_filter, rangeD_mem, Bool.or_eq_true, decide_eq_true_iff, decide_eq_true_iff]
  constructor
  · exact fun h => h.2
  · rintro (h | h)
    · exact ⟨⟨hs.lo y h, by have := hs.hi y h; omega⟩, Or.inl h⟩
    · exact ⟨⟨by omega, by omega⟩, Or.inr h⟩
theorem ins_some (p : Plan) (s : List Int) (x : Int) : SomeOk p (ins p s x) := ⟨fun y hy => (rangeD_mem.mp (List.mem_filter.mp hy).1).1, fun y hy => by have := (rangeD_mem.mp (List.mem_filter.mp hy).1).2; omega, asc_sub List.filter_sublist (asc_range _ _)⟩
theorem ins_perm {p : Plan} {s : List Int} (hs : SomeOk p s) {x : Int} (h0 : 0 ≤ x) (h1 : x < p.wishes.length) (hx : x ∉ s) : (s ++ [x]).Perm (ins p s x) := by
  refine perm_ext ?_ (asc_nodup (ins_some p s x).as) fun y => ?_
  · rw [List.nodup_append]
    exact ⟨asc_nodup hs.as, by simp, fun a ha b hb e => hx (by rw [← List.mem_singleton.mp hb, ← e]; exact ha)⟩
  · rw [mem_ins hs h0 h1, List.mem_append, List.mem_singleton]
theorem add_good {p : Plan} (hp : p.Ok) {s : List Int} (hs : SomeOk p s) {x : Int} (h0 : 0 ≤ x) (h1 : x < p.wishes.length) (hx : x ∉ s) : areGood p (named p (s ++ [x])) = good p (ins p s x) := by
  have hr : InRng p (s ++ [x]) := fun y hy => by
    rcases List.mem_append.mp hy with q | q
    · exact ⟨hs.lo y q, hs.hi y q⟩
    · rw [List.mem_singleton.mp q]; exact ⟨h0, h1⟩
  rw [areGood_perm hp (named_gw hp hr) ((ins_perm hs h0 h1 hx).map p.wish), ← good_eq hp (ins_some p s x)]
  rfl
theorem ins_len {p : Plan} {s : List Int} (hs : SomeOk p s) {x : Int} (h0 : 0 ≤ x) (h1 : x < p.wishes.length) (hx : x ∉ s) : (ins p s x).length = s.length + 1 := by
  have := (ins_perm hs h0 h1 hx).length_eq
  rw [List.length_append] at this
  exact this.symm
theorem mem_added {p : Plan} (hp : p.Ok) {s : List Int} (hs : SomeOk p s) {x : Int} : x ∈ added p s ↔ ((0 ≤ x ∧ x < p.wishes.length) ∧ x ∉ s) ∧ good p (ins p s x) = true := by
  unfold added
  rw [List.mem_filter, mem_others]
  constructor
  · rintro ⟨h1, h2⟩
    rw [add_good hp hs h1.1.1 h1.1.2 h1.2] at h2
    exact ⟨h1, h2⟩
  · rintro ⟨h1, h2⟩
    refine ⟨h1, ?_⟩
    rw [add_good hp hs h1.1.1 h1.1.2 h1.2]
    exact h2
theorem added_most {p : Plan} (hp : p.Ok) {s : List Int} (hs : SomeOk p s) (h : s.length = mostGranted p) : added p s = [] := by
  rw [List.eq_nil_iff_forall_not_mem]
  intro x hx
  obtain ⟨⟨⟨h0, h1⟩, h2⟩, h3⟩ := (mem_added hp hs).mp hx
  have := le_most (ins_some p s x) h3
  rw [ins_len hs h0 h1 h2] at this
  omega
theorem refuse_len {p : Plan} (hp : p.Ok) : (toRefuse p).length + mostGranted p = p.wishes.length := by
  obtain ⟨g, hg, e⟩ := refuse_is hp
  have hg' := mem_largest.mp hg
  have := others_len hg'.1.1
  rw [e]
  have := hg'.2
  omega
/-! the plan without one wish, as the law makes it -/
def without (p : Plan) (w : Nat) : Plan := ⟨p.houses, p.objects, p.wishes.take w ++ p.wishes.drop (w + 1)⟩
theorem without_wo {p : Plan} (hp : p.Ok) {w : Nat} (h : w < p.wishes.length) : Wo (without p w) p w := by
  have hl : (without p w).wishes.length + 1 = p.wishes.length := by
    show (p.wishes.take w ++ p.wishes.drop (w + 1)).length + 1 = _
    rw [List.length_append, List.length_take, List.length_drop]; omega
  have w8 := hp.w8
  refine ⟨⟨hp.h1, hp.h4, hp.hs, hp.o1, hp.o4, hp.os, by omega, fun v hv => ?_⟩, hp, rfl, rfl, by omega, by omega, by omega, fun i h0 h1 => ?_⟩
  · have hm : v ∈ p.wishes := by
      rcases List.mem_append.mp hv with q | q
      · exact List.mem_of_mem_take q
      · exact List.mem_of_mem_drop q
    obtain ⟨q1, q2, q3, q4, q5, q6, q7, q8⟩ := hp.ws v hm
    exact ⟨q1, q2, q3, q4, q5, q6, q7, q8⟩
  · obtain ⟨j, rfl⟩ : ∃ j : Nat, i = j := ⟨i.toNat, by omega⟩
    have hj : j + 1 < p.wishes.length := by omega
    unfold Plan.wish skip without
    rw [Int.toNat_natCast]
    simp only [List.getD]
    by_cases c : (j : Int) < w
    · rw [if_pos c, Int.toNat_natCast, List.getElem?_append_left (by rw [List.length_take]; omega), List.getElem?_take_of_lt (by omega)]
    · rw [if_neg c, List.getElem?_append_right (by rw [List.length_take]; omega), List.getElem?_drop, List.length_take]
      have e : w + 1 + (j - min w p.wishes.length) = ((j : Int) + 1).toNat := by omega
      rw [e]
/-! the first wish twice -/
def twin (p : Plan) : Plan := ⟨p.houses, p.objects, p.wishes ++ p.wishes.take 1⟩
theorem more_ok {p : Plan} (hp : p.Ok) (h7 : p.wishes.length ≤ 7) {v : Wish} (hv : v.Ok p) : (⟨p.houses, p.objects, p.wishes ++ [v]⟩ : Plan).Ok := by
  refine ⟨hp.h1, hp.h4, hp.hs, hp.o1, hp.o4, hp.os, by show (p.wishes ++ [v]).length ≤ 8; rw [List.length_append]; show p.wishes.length + 1 ≤ 8; omega, fun u hu => ?_⟩
  have : u.Ok p := by
    rcases List.mem_append.mp hu with q | q
    · exact hp.ws u q
    · rw [List.mem_singleton.mp q]; exact hv
  obtain ⟨q1, q2, q3, q4, q5, q6, q7, q8⟩ := this
  exact ⟨q1, q2, q3, q4, q5, q6, q7, q8⟩
theorem more_wo {p : Plan} (hp : p.Ok) (h7 : p.wishes.length ≤ 7) {v : Wish} (hv : v.Ok p) : Wo p (⟨p.houses, p.objects, p.wishes ++ [v]⟩ : Plan) p.wishes.length := by
  have ok := more_ok hp h7 hv
  refine ⟨hp, ok, rfl, rfl, ?_, by omega, ?_, fun i h0 h1 => ?_⟩
  · show _ = ((p.wishes ++ [v]).length : Int); rw [List.length_append]; rfl
  · show _ < ((p.wishes ++ [v]).length : Int); rw [List.length_append]; show (p.wishes.length : Int) < ((p.wishes.length + 1 : Nat) : Int); omega
  · unfold Plan.wish skip
    rw [if_pos h1]
    simp only [List.getD]
    rw [List.getElem?_append_left (by omega)]
theorem twin_eq {p : Plan} (h : 0 < p.wishes.length) : twin p = ⟨p.houses, p.objects, p.wishes ++ [p.wish 0]⟩ := by
  unfold twin
  have : p.wishes.take 1 = [p.wish 0] := by
    cases q : p.wishes with
    | nil => rw [q] at h; cases h
    | cons a l => simp [Plan.wish, q]
  rw [this]
theorem filter_ins {p : Plan} {s : List Int} (hs : SomeOk p s) {x : Int} (hx : x ∈ s) : ins p (s.filter fun y => decide (y ≠ x)) x = s := by
  have h0 := hs.lo x hx
  have h1 := hs.hi x hx
  have hf : SomeOk p (s.filter fun y => decide (y ≠ x)) := hs.sub List.filter_sublist
  refine asc_ext (ins_some p _ x).as hs.as fun y => ?_
  rw [mem_ins hf h0 h1, List.mem_filter, decide_eq_true_iff]
  constructor
  · rintro (h | h)
    · exact h.1
    · rw [h]; exact hx
  · intro h
    by_cases e : y = x
    · exact Or.inr e
    · exact Or.inl ⟨h, e⟩
section
variable {q : Plan} {a b : Int}
/-- two wishes that are equal stand for each other -/
theorem swap_good (hq : q.Ok) (ha : 0 ≤ a ∧ a < q.wishes.length) (hb : 0 ≤ b ∧ b < q.wishes.length) (e : q.wish a = q.wish b) {s : List Int} (hs : SomeOk q s) (h1 : a ∉ s) (h2 : b ∉ s) : good q (ins q s a) = good q (ins q s b) := by
  rw [← add_good hq hs ha.1 ha.2 h1, ← add_good hq hs hb.1 hb.2 h2]
  unfold named
  rw [List.map_append, List.map_append]
  show areGood q (s.map q.wish ++ [q.wish a]) = areGood q (s.map q.wish ++ [q.wish b])
  rw [e]
theorem not_both (hq : q.Ok) (hab : a < b) (e : q.wish a = q.wish b) {s : List Int} (hs : SomeOk q s) (hg : good q s = true) : ¬ (a ∈ s ∧ b ∈ s) := by
  rintro ⟨h1, h2⟩
  rw [good_iff] at hg
  refine hg (.rest a b) (mem_rest.mpr ⟨h1, h2, ?_, ?_⟩)
  · unfold aPair
    rw [e]; simp [hab]
  · unfold aNear
    have hw := hq.ws _ (q.wish_mem (hs.lo b h2) (hs.hi b h2))
    have hr := (hq.os _ (q.obj_mem hw.i0 hw.i1)).r0
    have := hw.fl
    rw [e]
    simp only [Bool.and_eq_true, decide_eq_true_eq]
    omega
theorem swap_large (hq : q.Ok) (ha : 0 ≤ a ∧ a < q.wishes.length) (hb : 0 ≤ b ∧ b < q.wishes.length) (hab : a ≠ b) (e : q.wish a = q.wish b) {r : List Int} (hr : r ∈ largest q) (h1 : a ∈ r) : ∃ t ∈ largest q, b ∈ t ∧ a ∉ t := by
  obtain ⟨⟨hs, hg⟩, hl⟩ := mem_largest.mp hr
  have nb : b ∉ r := fun h2 => by
    rcases Int.lt_or_gt_of_ne hab with k | k
    · exact not_both hq k e hs hg ⟨h1, h2⟩
    · exact not_both hq k e.symm hs hg ⟨h2, h1⟩
  have hf : SomeOk q (r.filter fun y => decide (y ≠ a)) := hs.sub List.filter_sublist
  have n1 : a ∉ r.filter fun y => decide (y ≠ a) := by simp
  have n2 : b ∉ r.filter fun y => decide (y ≠ a) := fun h => nb (List.mem_filter.mp h).1
  have hi := filter_ins hs h1
  refine ⟨ins q (r.filter fun y => decide (y ≠ a)) b, mem_largest.mpr ⟨⟨ins_some q _ b, ?_⟩, ?_⟩, (mem_ins hf hb.1 hb.2).mpr (Or.inr rfl), fun h => ?_⟩
  · rw [← swap_good hq ha hb e hf n1 n2, hi]; exact hg
  · rw [ins_len hf hb.1 hb.2 n2, ← ins_len hf ha.1 ha.2 n1, hi]; exact hl
  · rcases (mem_ins hf hb.1 hb.2).mp h with k | k
    · exact n1 k
    · exact hab k
theorem twin_sure (hq : q.Ok) (ha : 0 ≤ a ∧ a < q.wishes.length) (hb : 0 ≤ b ∧ b < q.wishes.length) (hab : a ≠ b) (e : q.wish a = q.wish b) : isSure q a = false := by
  cases c : isSure q a with
  | false => rfl
  | true =>
    obtain ⟨t, ht, _, hn⟩ := swap_large hq ha hb hab e (best_mem hq) (sure_iff.mp c _ (best_mem hq))
    exact absurd (sure_iff.mp c t ht) hn
theorem twin_role (hq : q.Ok) (ha : 0 ≤ a ∧ a < q.wishes.length) (hb : 0 ≤ b ∧ b < q.wishes.length) (hab : a ≠ b) (e : q.wish a = q.wish b) : roleR q a = roleR q b := by
  unfold roleR
  rw [twin_sure hq ha hb hab e, twin_sure hq hb ha hab.symm e.symm]
  have : isAny q a = isAny q b := by
    rw [Bool.eq_iff_iff, any_iff, any_iff]
    constructor
    · rintro ⟨r, hr, h1⟩
      obtain ⟨t, ht, k, _⟩ := swap_large hq ha hb hab e hr h1
      exact ⟨t, ht, k⟩
    · rintro ⟨r, hr, h1⟩
      obtain ⟨t, ht, k, _⟩ := swap_large hq hb ha hab.symm e.symm hr h1
      exact ⟨t, ht, k⟩
  rw [this]
end
/-! sorted ints -/
def sortI (l : List Int) : List Int := l.mergeSort fun a b => !decide (b < a)
theorem sort_ints (l : List Int) : sortD (l.map PyData.int) = (sortI l).map PyData.int := by
  unfold sortD sortI
  rw [← List.map_mergeSort (r := fun a b => !decide (b < a)) (s := PySem.W.dataLe false id) (f := PyData.int) (fun a _ b _ => by rw [PySem.W.dataLe_eq]; show (!decide (b < a)) = !PySem.W.dataLt (.int b) (.int a); rw [PySem.W.dataLt_int])]
theorem sortI_is {l t : List Int} (h : l.Perm t) (ht : asc t = true) : sortI l = t := by
  have p : (sortI l).Perm t := (List.mergeSort_perm ..).trans h
  refine p.eq_of_pairwise (le := fun a b : Int => a ≤ b) (fun a b _ _ h1 h2 => by omega) ?_ (((asc_iff t).mp ht).imp fun h => by omega)
  have := List.pairwise_mergeSort (le := fun a b : Int => !decide (b < a)) (fun a b c h1 h2 => by
    simp only [Bool.not_eq_true', decide_eq_false_iff_not] at h1 h2 ⊢; omega) (fun a b => by
    rw [Bool.or_eq_true]; simp only [Bool.not_eq_true', decide_eq_false_iff_not]; omega) l
  exact this.imp fun h => by simpa using h
theorem srt_ints (l : List Int) : Srt (l.map PyData.int) := by
  refine ⟨fun d hd d' hd' => ?_, .inl (.inr fun d hd => ?_), fun d hd => ?_⟩
  · obtain ⟨a, _, rfl⟩ := List.mem_map.mp hd
    obtain ⟨b, _, rfl⟩ := List.mem_map.mp hd'
    simp [PySem.W.alike]
  · obtain ⟨a, _, rfl⟩ := List.mem_map.mp hd
    exact ⟨(fun z => by cases z), (fun xs z => by cases z)⟩
  · obtain ⟨a, _, rfl⟩ := List.mem_map.mp hd
    exact ⟨(fun z => by cases z), by simp [PyData.depth]⟩
def c_law_without : Ct := ⟨Plan × Nat, fun a => [eP a.1, .int a.2], fun a => a.1.Ok ∧ a.2 < a.1.wishes.length, fun a => Eq (eP (without a.1 a.2))⟩
def c_law_roles : Ct := ⟨Plan, fun p => [eP p, .int (mostGranted p : Nat)], fun p => p.Ok, fun _ => Eq (.bool true)⟩
def rolesOf (p : Plan) : List Role := (rangeD 0 p.wishes.length).map (roleR p)
end Mus

namespace Mus
open PySem PySem.Spec PyProof.Rows L2 PL
/-! ## spans: (begin, end) -/
abbrev Span := Int × Int
def pairLt (a b : Int × Int) : Bool := decide (a.1 < b.1) || (decide (a.1 = b.1) && decide (a.2 < b.2))
def sortP (l : List (Int × Int)) : List (Int × Int) := l.mergeSort fun a b => !pairLt b a
theorem sortP_perm (l : List (Int × Int)) : (sortP l).Perm l := List.mergeSort_perm ..
theorem sortP_sorted (l : List (Int × Int)) : (sortP l).Pairwise fun a b => pairLt b a = false := by
  have h := List.pairwise_mergeSort (le := fun a b : Int × Int => !pairLt b a) (fun a b c h1 h2 => by
    simp only [pairLt, Bool.not_eq_true', Bool.or_eq_false_iff, Bool.and_eq_false_iff, decide_eq_false_iff_not] at h1 h2 ⊢
    omega) (fun a b => by
    rw [Bool.or_eq_true]
    simp only [pairLt, Bool.not_eq_true', Bool.or_eq_false_iff, Bool.and_eq_false_iff, decide_eq_false_iff_not]
    omega) l
  exact h.imp fun h => by simpa using h
def isIn (k : Int) (s : Span) : Bool := decide (s.1 ≤ k) && decide (k ≤ s.2)
theorem isIn_iff {k : Int} {s : Span} : isIn k s = true ↔ s.1 ≤ k ∧ k ≤ s.2 := by
  unfold isIn
  rw [Bool.and_eq_true, decide_eq_true_iff, decide_eq_true_iff]
def meets (l : List Span) (ks : List Int) : Bool := l.all fun s => ks.any fun k => isIn k s
theorem meets_iff {l : List Span} {ks : List Int} : meets l ks = true ↔ ∀ s ∈ l, ∃ k ∈ ks, s.1 ≤ k ∧ k ≤ s.2 := by
  unfold meets
  rw [List.all_eq_true]
  constructor
  · intro h s hs
    obtain ⟨k, h1, h2⟩ := List.any_eq_true.mp (h s hs)
    exact ⟨k, h1, isIn_iff.mp h2⟩
  · intro h s hs
    obtain ⟨k, h1, h2⟩ := h s hs
    exact List.any_eq_true.mpr ⟨k, h1, isIn_iff.mpr h2⟩
/-- taken greedily, behind an end -/
def after (o : Option Int) (b : Int) : Bool := match o with
  | none => true
  | some x => decide (x < b)
def greedy : Option Int → List Span → List Int
  | _, [] => []
  | o, s :: l => if after o s.1 = true then s.2 :: greedy (some s.2) l else greedy o l
theorem greedy_cons (o : Option Int) (s : Span) (l : List Span) : greedy o (s :: l) = if after o s.1 = true then s.2 :: greedy (some s.2) l else greedy o l := by rw [greedy]
def endsMet (l : List Span) : List Int := greedy none l
def endStep (f : List Int) (s : Span) : List Int := if f.isEmpty || decide (f.getLastD 0 < s.1) then f ++ [s.2] else f
theorem after_last (f : List Int) (b : Int) : after f.getLast? b = (f.isEmpty || decide (f.getLastD 0 < b)) := by
  cases f with
  | nil => rfl
  | cons a l => rw [List.getLast?_cons, List.getLastD_cons, ← List.getLastD_eq_getLast?]; rfl
theorem fold_greedy : ∀ (l : List Span) (f : List Int), l.foldl endStep f = f ++ greedy f.getLast? l
  | [], f => by simp [greedy]
  | s :: l, f => by
    rw [List.foldl_cons, fold_greedy l]
    rw [greedy_cons, after_last]
    unfold endStep
    by_cases c : (f.isEmpty || decide (f.getLastD 0 < s.1)) = true
    · rw [if_pos c, if_pos c]
      simp
    · rw [if_neg c, if_neg c]
theorem fold_ends (l : List Span) : l.foldl endStep [] = endsMet l := by rw [fold_greedy]; rfl
theorem greedy_len : ∀ (l : List Span) (o : Option Int), (greedy o l).length ≤ l.length
  | [], o => by simp [greedy]
  | s :: l, o => by
    rw [greedy_cons]
    have h1 := greedy_len l (some s.2)
    have h2 := greedy_len l o
    split <;> simp only [List.length_cons] <;> omega
/-- in the order of their ends; none ends before it begins -/
structure Srtd (l : List Span) : Prop where
  so : l.Pairwise fun a b => a.2 ≤ b.2
  be : ∀ s ∈ l, s.1 ≤ s.2
theorem Srtd.tail {a : Span} {l : List Span} (h : Srtd (a :: l)) : Srtd l := ⟨(List.pairwise_cons.mp h.so).2, fun s hs => h.be s (List.mem_cons_of_mem _ hs)⟩
theorem Srtd.sub {l m : List Span} (h : Srtd l) (k : m.Sublist l) : Srtd m := ⟨h.so.sublist k, fun s hs => h.be s (k.subset hs)⟩
/-- the ends meet all -/
theorem greedy_meets : ∀ (l : List Span) (o : Option Int), Srtd l → ∀ s ∈ l, (∃ k ∈ greedy o l, s.1 ≤ k ∧ k ≤ s.2) ∨ ∃ x, o = some x ∧ s.1 ≤ x
  | [], _, _, s, hs => by cases hs
  | a :: l, o, h, s, hs => by
    obtain ⟨p1, p2⟩ := List.pairwise_cons.mp h.so
    rw [greedy_cons]
    by_cases c : after o a.1 = true
    · rw [if_pos c]
      left
      rcases List.mem_cons.mp hs with e | hs
      · exact ⟨a.2, List.mem_cons_self, by rw [e]; exact h.be a List.mem_cons_self, by rw [e]; exact Int.le_refl _⟩
      · rcases greedy_meets l (some a.2) h.tail s hs with ⟨k, h1, h2⟩ | ⟨x, hx, hl⟩
        · exact ⟨k, List.mem_cons_of_mem _ h1, h2⟩
        · cases hx
          exact ⟨a.2, List.mem_cons_self, hl, p1 s hs⟩
    · rw [if_neg c]
      rcases List.mem_cons.mp hs with e | hs
      · right
        cases o with
        | none => exact absurd rfl c
        | some x =>
          simp only [after, decide_eq_true_iff] at c
          exact ⟨x, rfl, by rw [e]; omega⟩
      · exact greedy_meets l o h.tail s hs
theorem ends_meet {l : List Span} (h : Srtd l) : meets l (endsMet l) = true := meets_iff.mpr fun s hs => by
  rcases greedy_meets l none h s hs with q | ⟨x, hx, _⟩
  · exact q
  · cases hx
/-- spans apart from each other -/
def Aprt (l : List Span) : Prop := l.Pairwise fun a b => a.2 < b.1 ∨ b.2 < a.1
theorem greedy_apart : ∀ (l : List Span) (o : Option Int), Srtd l → ∃ d : List Span, d.Sublist l ∧ d.map Prod.snd = greedy o l ∧ d.Pairwise (fun a b => a.2 < b.1) ∧ ∀ s ∈ d, after o s.1 = true
  | [], o, _ => ⟨[], List.Sublist.refl _, rfl, .nil, by simp⟩
  | a :: l, o, h => by
    rw [greedy_cons]
    by_cases c : after o a.1 = true
    · rw [if_pos c]
      obtain ⟨d, d1, d2, d3, d4⟩ := greedy_apart l (some a.2) h.tail
      refine ⟨a :: d, d1.cons₂ a, by rw [List.map_cons, d2], List.pairwise_cons.mpr ⟨fun s hs => by simpa [after] using d4 s hs, d3⟩, fun s hs => ?_⟩
      rcases List.mem_cons.mp hs with e | hs
      · rw [e]; exact c
      · have q := d4 s hs
        cases o with
        | none => rfl
        | some x =>
          simp only [after, decide_eq_true_iff] at q c ⊢
          have := h.be a List.mem_cons_self
          omega
    · rw [if_neg c]
      obtain ⟨d, d1, d2, d3, d4⟩ := greedy_apart l o h.tail
      exact ⟨d, d1.cons a, d2, d3, d4⟩
/-- spans apart need a week each -/
theorem apart_weeks : ∀ (d : List Span) (ks : List Int), Aprt d → (∀ s ∈ d, ∃ k ∈ ks, s.1 ≤ k ∧ k ≤ s.2) → d.length ≤ ks.length
  | [], _, _, _ => Nat.zero_le _
  | a :: d, ks, h, m => by
    obtain ⟨p1, p2⟩ := List.pairwise_cons.mp h
    obtain ⟨k, hk, h1, h2⟩ := m a List.mem_cons_self
    have ih := apart_weeks d (ks.erase k) p2 fun s hs => by
      obtain ⟨j, hj, j1, j2⟩ := m s (List.mem_cons_of_mem _ hs)
      refine ⟨j, (List.mem_erase_of_ne fun e => ?_).mpr hj, j1, j2⟩
      have := p1 s hs
      omega
    have e := List.length_erase_of_mem hk
    have := List.length_pos_of_mem hk
    rw [List.length_cons]; omega
theorem ends_least {l : List Span} (h : Srtd l) {ks : List Int} (m : meets l ks = true) : (endsMet l).length ≤ ks.length := by
  obtain ⟨d, d1, d2, d3, _⟩ := greedy_apart l none h
  have e : (endsMet l).length = d.length := by
    have := congrArg List.length d2
    rw [List.length_map] at this
    exact this.symm
  rw [e]
  exact apart_weeks d ks (d3.imp Or.inl) fun s hs => meets_iff.mp m s (d1.subset hs)
/-- of spans apart there are no more -/
theorem apart_most {l : List Span} (h : Srtd l) {d : List Span} (hd : ∀ s ∈ d, s ∈ l) (ha : Aprt d) : d.length ≤ (endsMet l).length :=
  apart_weeks d _ ha fun s hs => meets_iff.mp (ends_meet h) s (hd s hs)
theorem ends_nil {l : List Span} (h : Srtd l) (e : (endsMet l).length = 0) : l = [] := by
  cases l with
  | nil => rfl
  | cons a l => simp [endsMet, greedy, after] at e
/-! ## the fewest weeks -/
def restOf (l : List Span) (k : Int) : List Span := l.filter fun s => !isIn k s
def minL : List Int → Int
  | [] => 0
  | a :: l => l.foldl (fun m x => if x < m then x else m) a
theorem foldl_min : ∀ (l : List Int) (a : Int), (l.foldl (fun m x => if x < m then x else m) a) ≤ a ∧ (∀ x ∈ l, (l.foldl (fun m x => if x < m then x else m) a) ≤ x) ∧ (l.foldl (fun m x => if x < m then x else m) a ∈ a :: l)
  | [], a => ⟨Int.le_refl _, by simp, List.mem_cons_self⟩
  | b :: l, a => by
    obtain ⟨h1, h2, h3⟩ := foldl_min l (if b < a then b else a)
    rw [List.foldl_cons]
    refine ⟨?_, fun x hx => ?_, ?_⟩
    · split at h1 <;> rename_i c
      · rw [if_pos c]; omega
      · rw [if_neg c]; exact h1
    · rcases List.mem_cons.mp hx with e | e
      · subst e
        split at h1 <;> rename_i c
        · rw [if_pos c]; exact h1
        · rw [if_neg c]; omega
      · exact h2 x e
    · rcases List.mem_cons.mp h3 with e | e
      · rw [e]
        by_cases c : b < a
        · rw [if_pos c]; exact List.mem_cons_of_mem _ List.mem_cons_self
        · rw [if_neg c]; exact List.mem_cons_self
      · exact List.mem_cons_of_mem _ (List.mem_cons_of_mem _ e)
theorem minL_le {l : List Int} {x : Int} (h : x ∈ l) : minL l ≤ x := by
  cases l with
  | nil => cases h
  | cons a l =>
    rcases List.mem_cons.mp h with e | e
    · rw [e]; exact (foldl_min l a).1
    · exact (foldl_min l a).2.1 x e
theorem minL_mem {l : List Int} (h : l ≠ []) : minL l ∈ l := by
  cases l with
  | nil => exact absurd rfl h
  | cons a l => exact (foldl_min l a).2.2
def fewer (l : List Span) (k : Int) : Bool := decide ((endsMet (restOf l k)).length < (endsMet l).length)
def loB (l : List Span) : Int := minL (l.map Prod.fst)
def hiB (l : List Span) : Int := (l.headD (0, 0)).2
def fwRange (l : List Span) : List Int := rangeD (loB l) (hiB l + 1 - loB l).toNat
def fwFind (l : List Span) : Option Int := (fwRange l).find? (fewer l)
def fwF : Nat → List Span → List Int
  | 0, _ => []
  | n + 1, l => if l.isEmpty then [] else match fwFind l with
    | some k => k :: fwF n (restOf l k)
    | none => []
def firstWeeks (l : List Span) : List Int := fwF l.length l
theorem rest_sub (l : List Span) (k : Int) : (restOf l k).Sublist l := List.filter_sublist
theorem mem_rest_of {l : List Span} {k : Int} {s : Span} : s ∈ restOf l k ↔ s ∈ l ∧ ¬ (s.1 ≤ k ∧ k ≤ s.2) := by
  unfold restOf
  rw [List.mem_filter, Bool.not_eq_true', ← Bool.not_eq_true, isIn_iff]
theorem greedy_filter : ∀ (m : List Span) (x y : Int), x ≤ y → Srtd m → greedy (some y) (m.filter fun s => decide (x < s.1)) = greedy (some y) m
  | [], _, _, _, _ => rfl
  | t :: m, x, y, h, hm => by
    have tb := hm.be t List.mem_cons_self
    by_cases c : x < t.1
    · rw [List.filter_cons_of_pos (by simpa using c)]
      rw [greedy_cons, greedy_cons, greedy_filter m x t.2 (by omega) hm.tail, greedy_filter m x y h hm.tail]
    · rw [List.filter_cons_of_neg (by simpa using c), greedy_filter m x y h hm.tail]
      rw [greedy_cons, if_neg (by simp only [after, decide_eq_true_iff]; omega)]
theorem greedy_none : ∀ (l : List Span) (x : Int), Srtd l → (∀ s ∈ l, x ≤ s.2) → greedy none (l.filter fun s => decide (x < s.1)) = greedy (some x) l
  | [], _, _, _ => rfl
  | b :: l, x, hl, hx => by
    have bb := hl.be b List.mem_cons_self
    by_cases c : x < b.1
    · rw [List.filter_cons_of_pos (by simpa using c)]
      rw [greedy_cons, greedy_cons, if_pos (by rfl : after none b.1 = true), if_pos (by simpa [after] using c), greedy_filter l x b.2 (by omega) hl.tail]
    · rw [List.filter_cons_of_neg (by simpa using c), greedy_none l x hl.tail fun s hs => hx s (List.mem_cons_of_mem _ hs)]
      rw [greedy_cons, if_neg (by simp only [after, decide_eq_true_iff]; omega)]
theorem head_meets {a : Span} {l : List Span} (h : Srtd (a :: l)) : endsMet (restOf (a :: l) a.2) = greedy (some a.2) l := by
  have e : restOf (a :: l) a.2 = l.filter fun s => decide (a.2 < s.1) := by
    unfold restOf
    have c : (!isIn a.2 a) = false := by
      rw [Bool.not_eq_false', isIn_iff]
      exact ⟨h.be a List.mem_cons_self, Int.le_refl _⟩
    rw [List.filter_cons_of_neg (by rw [c]; exact Bool.false_ne_true)]
    refine List.filter_congr fun s hs => ?_
    have := (List.pairwise_cons.mp h.so).1 s hs
    rw [Bool.eq_iff_iff, Bool.not_eq_true', ← Bool.not_eq_true, isIn_iff, decide_eq_true_iff]
    omega
  rw [e]
  exact greedy_none l a.2 h.tail (List.pairwise_cons.mp h.so).1
theorem fewer_head {a : Span} {l : List Span} (h : Srtd (a :: l)) : fewer (a :: l) a.2 = true := by
  unfold fewer
  rw [head_meets h, decide_eq_true_iff]
  show _ < (greedy none (a :: l)).length
  rw [greedy_cons, if_pos (by rfl : after none a.1 = true), List.length_cons]
  omega
/-- a week is found; the weeks left lie behind it, and need one less -/
structure Found (l : List Span) (k : Int) : Prop where
  find : fwFind l = some k
  lo : ∀ s ∈ l, k ≤ s.2
  mn : loB l ≤ k
  cnt : (endsMet (restOf l k)).length + 1 = (endsMet l).length
  beh : ∀ s ∈ restOf l k, k < s.1
  len : (restOf l k).length < l.length
theorem loB_le {l : List Span} {s : Span} (h : s ∈ l) : loB l ≤ s.1 := minL_le (List.mem_map.mpr ⟨s, h, rfl⟩)
theorem found_ex {l : List Span} (h : Srtd l) (hn : l ≠ []) : ∃ k, Found l k := by
  cases l with
  | nil => exact absurd rfl hn
  | cons a l =>
    have ha := loB_le (l := a :: l) List.mem_cons_self
    have hb := h.be a List.mem_cons_self
    have hh : hiB (a :: l) = a.2 := rfl
    have mem : a.2 ∈ fwRange (a :: l) := rangeD_mem.mpr ⟨by omega, by rw [hh]; omega⟩
    cases q : fwFind (a :: l) with
    | none =>
      have := List.find?_eq_none.mp q a.2 mem
      exact absurd (fewer_head h) this
    | some k =>
      have hk := List.mem_of_find?_eq_some q
      have hf := List.find?_some q
      have hr := rangeD_mem.mp hk
      rw [hh] at hr
      have lo : ∀ s ∈ a :: l, k ≤ s.2 := fun s hs => by
        rcases List.mem_cons.mp hs with e | e
        · rw [e]; omega
        · have := (List.pairwise_cons.mp h.so).1 s e; omega
      have hf' : (endsMet (restOf (a :: l) k)).length < (endsMet (a :: l)).length := of_decide_eq_true hf
      have sr := h.sub (rest_sub (a :: l) k)
      have up : (endsMet (a :: l)).length ≤ (k :: endsMet (restOf (a :: l) k)).length := ends_least h (meets_iff.mpr fun s hs => by
        by_cases c : s.1 ≤ k ∧ k ≤ s.2
        · exact ⟨k, List.mem_cons_self, c⟩
        · obtain ⟨j, j1, j2⟩ := meets_iff.mp (ends_meet sr) s (mem_rest_of.mpr ⟨hs, c⟩)
          exact ⟨j, List.mem_cons_of_mem _ j1, j2⟩)
      rw [List.length_cons] at up
      refine ⟨k, q, lo, by omega, by omega, fun s hs => ?_, ?_⟩
      · obtain ⟨h1, h2⟩ := mem_rest_of.mp hs
        have := lo s h1
        omega
      · refine Nat.lt_of_not_le fun hle => ?_
        have := (rest_sub (a :: l) k).eq_of_length_le hle
        rw [this] at hf'
        omega
theorem Found.uniq {l : List Span} {k j : Int} (h : Found l k) (q : fwFind l = some j) : j = k := by
  rw [h.find] at q; exact (Option.some.inj q).symm
theorem fwF_eq : ∀ (n : Nat) (l : List Span), Srtd l → l.length ≤ n → fwF n l = firstWeeks l
  | 0, l, h, hl => by
    have : l = [] := List.eq_nil_of_length_eq_zero (by omega)
    subst this; rfl
  | n + 1, [], _, _ => rfl
  | n + 1, a :: l, h, hl => by
    obtain ⟨k, hk⟩ := found_ex h (by simp)
    have e : ∀ m, fwF (m + 1) (a :: l) = k :: fwF m (restOf (a :: l) k) := fun m => by
      show (if (a :: l).isEmpty = true then [] else match fwFind (a :: l) with
        | some k => k :: fwF m (restOf (a :: l) k)
        | none => []) = _
      rw [hk.find]; rfl
    have hs := h.sub (rest_sub (a :: l) k)
    have hlen := hk.len
    rw [List.length_cons] at hl hlen
    unfold firstWeeks
    rw [List.length_cons, e, e, fwF_eq n _ hs (by omega), fwF_eq l.length _ hs (by omega)]
termination_by n => n
theorem firstWeeks_nil : firstWeeks [] = [] := rfl
theorem firstWeeks_step {l : List Span} (h : Srtd l) {k : Int} (hk : Found l k) : firstWeeks l = k :: firstWeeks (restOf l k) := by
  have hs := h.sub (rest_sub l k)
  have hlen := hk.len
  unfold firstWeeks
  cases q : l.length with
  | zero => omega
  | succ n =>
    show (if l.isEmpty = true then [] else match fwFind l with
        | some k => k :: fwF n (restOf l k)
        | none => []) = _
    have : l.isEmpty = false := by cases l; · cases q
                                   · rfl
    rw [this, hk.find]
    show k :: fwF n (restOf l k) = _
    rw [fwF_eq n _ hs (by omega)]
    rfl
/-- the weeks found: as many as spans apart, ascending, meeting all -/
theorem firstWeeks_is : ∀ (n : Nat) (l : List Span), l.length ≤ n → Srtd l → (firstWeeks l).length = (endsMet l).length ∧ asc (firstWeeks l) = true ∧ (∀ x ∈ firstWeeks l, loB l ≤ x) ∧ (∀ x ∈ firstWeeks l, ∃ s ∈ l, s.1 ≤ x ∧ x ≤ s.2) ∧ meets l (firstWeeks l) = true
  | n, [], _, _ => ⟨rfl, rfl, by simp [firstWeeks_nil], by simp [firstWeeks_nil], rfl⟩
  | 0, a :: l, hl, _ => by simp at hl
  | n + 1, a :: l, hl, h => by
    obtain ⟨k, hk⟩ := found_ex h (by simp)
    have hlen := hk.len
    obtain ⟨i1, i2, i3, i5, i4⟩ := firstWeeks_is n (restOf (a :: l) k) (by rw [List.length_cons] at hl hlen; omega) (h.sub (rest_sub _ k))
    rw [firstWeeks_step h hk]
    have beh : ∀ x ∈ firstWeeks (restOf (a :: l) k), k < x := fun x hx => by
      have e := i3 x hx
      have ne : restOf (a :: l) k ≠ [] := fun z => by rw [z] at hx; cases hx
      obtain ⟨s, hs, es⟩ := List.mem_map.mp (minL_mem (l := (restOf (a :: l) k).map Prod.fst) (by simpa using ne))
      have := hk.beh s hs
      have e2 : loB (restOf (a :: l) k) = s.1 := es.symm
      omega
    refine ⟨by rw [List.length_cons, i1]; exact hk.cnt, ?_, fun x hx => ?_, fun x hx => ?_, meets_iff.mpr fun s hs => ?_⟩
    · rw [asc_iff] at i2 ⊢
      exact List.pairwise_cons.mpr ⟨beh, i2⟩
    · rcases List.mem_cons.mp hx with e | e
      · rw [e]; exact hk.mn
      · have := beh x e; have := hk.mn; omega
    · rcases List.mem_cons.mp hx with e | e
      · subst e
        by_cases c : ∃ s ∈ a :: l, s.1 ≤ x ∧ x ≤ s.2
        · exact c
        · have : restOf (a :: l) x = a :: l := List.filter_eq_self.mpr fun s hs => by
            rw [Bool.not_eq_true', ← Bool.not_eq_true, isIn_iff]
            exact fun z => c ⟨s, hs, z⟩
          rw [this] at hlen
          omega
      · obtain ⟨s, hs, h2⟩ := i5 x e
        exact ⟨s, (rest_sub _ k).subset hs, h2⟩
    · by_cases c : s.1 ≤ k ∧ k ≤ s.2
      · exact ⟨k, List.mem_cons_self, c⟩
      · obtain ⟨j, j1, j2⟩ := meets_iff.mp i4 s (mem_rest_of.mpr ⟨hs, c⟩)
        exact ⟨j, List.mem_cons_of_mem _ j1, j2⟩
end Mus

namespace PL
open PySem PySem.Spec PyProof.Rows L2
section
variable {X : Cx} {ρ ρ1 : List SD} {P : Po} {rest : List Stmt} {e : Expr} {pos pos' : Pos} {x : Str} {i : Nat}
theorem Sl.getV {Hm H : Hp} {ρ : List SD} {σ : Sg} {as : List Addr} (h : Sl Hm H ρ σ as) {i : Nat} {a : Int} (e : ρ[i]? = some (.dat (.int a))) : σ[i]? = some (some (.int a)) := by
  obtain ⟨v, h1, r⟩ := h.get e
  cases r
  exact h1
/-- name += an int -/
theorem hs_aug {a b : Int} (hN : X.N.Nodup) (hi : X.N[i]? = some x) (hx : Loc X.env.scope x) (ho : ρ[i]? = some (.dat (.int a))) (he : Ev X ρ e (.int b)) (k : HSs X rest (ρ.set i (.dat (.int (a + b)))) P)
    (hf : X.fn x = true ∨ X.env.scope.names.lookup x = some .local := by first | exact .inl rfl | exact .inr rfl | assumption) : HSs X (.AugAssign (.Name x pos') .Add e pos :: rest) ρ P := by
  have hp : plainAt ρ i = true := by unfold plainAt; rw [ho]; rfl
  refine hs_cons (M := fun r => r = ρ.set i (.dat (.int (a + b)))) (ps_imp (ps_aug hN hi hx he ip_add hf) fun Dn σ H ⟨F, O0, O1, s, q, _⟩ => ?_) fun r z => by subst z; exact k
  refine ⟨.int a, s.sl.getV ho, F, O0, O1, s, fun v d H' s' e' hd r => ?_⟩
  subst hd
  cases r
  exact ⟨a, b, rfl, rfl, q _ O1 _ H' rfl (s'.set hp (.int _))⟩
end
/-! ## sorted(set(a tuple of ints)) -/
def rSetTI (K : PySem.W.Frag) (w : World) : List V → Hp → VK → Prop := fun xs H Q => ∃ (l : Addr) (ns : List Int), xs = [.ref l] ∧ SqT K H l (ns.map V.int) ∧ ns.length ≤ 1000 ∧ ∀ p c, H p = none → c ≤ ns.length → Q (.ref p) (upd H p (SetO w p (fun j => decide (j ∈ ns)) c))
theorem cr_setTI {X : Cx} (hc : X.calm = true) : CallR X (.type "set") (rSetTI X.K X.w) := by
  intro pins s σ H vs us Q I r h
  obtain ⟨l, ns, rfl, hq, hl, q⟩ := h
  obtain ⟨u, rfl, ru⟩ := vals1 r
  obtain rfl : u = Value.ref l := ru
  obtain ⟨its, rv, pt, hz⟩ := I.tuple hq
  have hi : IntsAre its.toArray.toList ns := ints_of_vals rv
  refine call_set_tupI ns (I.ok.hd hc) (show s.heap.IsTuple l its.toArray from pt) hi (by unfold scanBound; omega) fun h' tk c R1 hcn k => ?_
  exact ⟨.ref _, _, I.laid (fun b u e => k b u e) (Nat.le_refl _) (setO_new R1), rfl, q _ c (I.hok.fresh (Nat.le_refl _)) hcn⟩
/-- ascending, without duplicates, the same members: there is one such list -/
theorem strict_uniq : ∀ {l m : List Int}, l.Pairwise (· < ·) → m.Pairwise (· < ·) → (∀ x, x ∈ l ↔ x ∈ m) → l = m
  | [], [], _, _, _ => rfl
  | [], b :: m, _, _, h => absurd ((h b).mpr List.mem_cons_self) (by simp)
  | a :: l, [], _, _, h => absurd ((h a).mp List.mem_cons_self) (by simp)
  | a :: l, b :: m, h1, h2, h => by
    obtain ⟨p1, p2⟩ := List.pairwise_cons.mp h1
    obtain ⟨q1, q2⟩ := List.pairwise_cons.mp h2
    have e : a = b := by
      rcases List.mem_cons.mp ((h a).mp List.mem_cons_self) with e | e
      · exact e
      · rcases List.mem_cons.mp ((h b).mpr List.mem_cons_self) with e2 | e2
        · exact e2.symm
        · have := q1 a e; have := p1 b e2; omega
    subst e
    rw [strict_uniq p2 q2 fun x => ?_]
    constructor
    · intro hx
      rcases List.mem_cons.mp ((h x).mp (List.mem_cons_of_mem _ hx)) with e | e
      · have := p1 x hx; omega
      · exact e
    · intro hx
      rcases List.mem_cons.mp ((h x).mpr (List.mem_cons_of_mem _ hx)) with e | e
      · have := q1 x hx; omega
      · exact e
theorem ev_sortedSetT {X : Cx} {ρ : List SD} {a : Expr} {p p2 q pos : Pos} {ns ms : List Int} (hc : X.calm = true) (hg : Gl X "sorted") (hm : X.mg "sorted" = none) (hg2 : Gl X "set") (hm2 : X.mg "set" = none) (ha : Ev X ρ a (.tuple (ns.map PyData.int))) (hl : ns.length ≤ 63)
    (hms : ms.Pairwise (· < ·)) (hmem : ∀ x, x ∈ ms ↔ x ∈ ns)
    (h1 : starEach [a] X.env = (false, eval a X.env) :: starEach [] X.env := by rfl) (h2 : starEach [.Call (.Name "set" p2) [a] [] q] X.env = (false, eval (.Call (.Name "set" p2) [a] [] q) X.env) :: starEach [] X.env := by rfl) :
    Ev X ρ (.Call (.Name "sorted" p) [.Call (.Name "set" p2) [a] [] q] [] pos) (.list (ms.map PyData.int)) := by
  refine pe_imp (pe_callB (cr_sortedSet hc) hg hm (by decide +kernel) (pa_cons (pe_callTy (cr_setTI hc) hg2 hm2 (by decide +kernel) (ea_cons ha ea_nil h1) (by decide) (by decide) h1 rfl) pa_nil h2) (by decide) (by decide) h2 rfl) fun σ H Q ⟨F, O0, O1, s, k⟩ => ?_
  refine ⟨F, O0, O1, s, fun vs ds H1 s1 e1 hd r1 => ?_⟩
  subst hd
  obtain ⟨v, rfl, r2⟩ := rpA1 r1
  cases r2 with
  | tup g1 g2 g3 =>
    rename_i l xs
    refine ⟨l, ns, rfl, SqT.of (by rw [← g3.ints]; exact (msk_some g1).2), by omega, fun p c hp hcn => ?_⟩
    have s2 := s1.ex (Ex.new (o := SetO X.w p (fun j => decide (j ∈ ns)) c) hp)
    refine ⟨p, _, c, rfl, upd_same .., by omega, fun ns' p' hs' hm' hl' hp' => ?_⟩
    have e : ns' = ms := strict_uniq hs' hms fun x => by rw [hm' x, decide_eq_true_iff, hmem x]
    subst e
    have ex : Ex H1 (upd (upd H1 p (SetO X.w p (fun j => decide (j ∈ ns)) c)) p' (.lst (ns'.map V.int))) := (Ex.new hp).trans (Ex.new hp')
    exact (s1.kt e1 k) (.ref p') (.list (ns'.map PyData.int)) _ ex rfl (.lst (msk_upd ((s2.al).out hp')) (by rw [List.length_map, hl']; show c ≤ 4096; omega) (rpA_ints _))
/-- list(a tuple) -/
theorem cd_list {K : PySem.W.Frag} {ds : List PyData} : CD (fun xs H Q => ∃ p ys, xs = [.ref p] ∧ (SqL K H p ys ∨ SqT K H p ys) ∧ ∀ l, H l = none → Q (.ref l) (upd H l (.lst ys))) [.tuple ds] (Eq (.list ds)) := fun O H xs Q al r k => by
  obtain ⟨v, rfl, r1⟩ := rpA1 r
  cases r1 with
  | tup h1 h2 h3 => exact ⟨_, _, rfl, .inr (SqT.of (msk_some h1).2), k.lst al rfl h2 h3⟩
theorem ev_listT {X : Cx} {ρ : List SD} {a : Expr} {p pos : Pos} {ds : List PyData} (hg : Gl X "list") (hm : X.mg "list" = none) (ha : Ev X ρ a (.tuple ds)) (hs : starEach [a] X.env = (false, eval a X.env) :: starEach [] X.env := by rfl) : Ev X ρ (.Call (.Name "list" p) [a] [] pos) (.list ds) :=
  ev_callTy call_list_of hg hm (by decide +kernel) (ea_cons ha ea_nil hs) cd_list (by decide) (by decide) hs rfl
theorem ev_minI {X : Cx} {ρ : List SD} {a : Expr} {p pos : Pos} {ns : List Int} {m : Int} (hc : X.calm = true) (hg : Gl X "min") (hm : X.mg "min" = none) (ha : Ev X ρ a (.list (ns.map PyData.int))) (h1 : m ∈ ns) (h2 : ∀ y ∈ ns, m ≤ y) (hs : starEach [a] X.env = (false, eval a X.env) :: starEach [] X.env := by rfl) : Ev X ρ (.Call (.Name "min" p) [a] [] pos) (.int m) :=
  ev_callB (cr_min hc) hg hm (by decide +kernel) (ea_cons ha ea_nil hs) (cd_min h1 h2) (by decide) (by decide) hs rfl
/-- sorted lists, by what comes first -/
theorem sort_enc {α : Type} (e : α → PyData) (lt : α → α → Bool) (h : ∀ a b, PySem.W.dataLt (e a) (e b) = lt a b) (l : List α) : sortD (l.map e) = (l.mergeSort fun a b => !lt b a).map e := by
  unfold sortD
  rw [← List.map_mergeSort (r := fun a b => !lt b a) (s := PySem.W.dataLe false id) (f := e) (fun a _ b _ => by rw [PySem.W.dataLe_eq]; show (!lt b a) = !PySem.W.dataLt (e b) (e a); rw [h])]
theorem srt_enc {α : Type} (e : α → PyData) (hc : ∀ a, ∃ x r, e a = .tuple (x :: r)) (ha : ∀ a b, PySem.W.alike (e a) (e b) = true) (hd : ∀ a, (e a).depth ≤ 60) (l : List α) : Srt (l.map e) := by
  refine ⟨fun d hd d' hd' => ?_, .inl (.inl fun d hd => ?_), fun d hd' => ?_⟩
  · obtain ⟨a, _, rfl⟩ := List.mem_map.mp hd
    obtain ⟨b, _, rfl⟩ := List.mem_map.mp hd'
    exact ha a b
  · obtain ⟨a, _, rfl⟩ := List.mem_map.mp hd
    exact hc a
  · obtain ⟨a, _, rfl⟩ := List.mem_map.mp hd'
    obtain ⟨x, r, e1⟩ := hc a
    exact ⟨(fun z => by rw [e1] at z; cases z), hd a⟩
end PL

namespace Mus
open PySem PySem.Spec PyProof.Rows L2 PL
/-! ## mirrors: single.py -/
def endsOf (p : Plan) (i : Int) : List (Int × Int) := (p.wishes.filter fun w => decide (w.item = i)).map fun w => (w.last + (p.obj i).rest, w.first)
def spansOf (p : Plan) (i : Int) : List Span := (sortP (endsOf p i)).map fun x => (x.2, x.1)
def loansOf (p : Plan) (i : Int) : Nat := (endsMet (spansOf p i)).length
def meetingWeeks (p : Plan) (i : Int) : List Int := firstWeeks (spansOf p i)
def isIntD (d : PyData) : Bool := PL.isInt d && !isBool d
def areMeeting (p : Plan) (i : Int) (d : PyData) : Bool := match d with
  | .tuple ds => ds.all isIntD && (asc (ds.map toI) && meets (spansOf p i) (ds.map toI))
  | _ => false
def InObj (p : Plan) (i : Int) : Prop := 0 ≤ i ∧ i < p.objects.length
theorem mem_spans {p : Plan} {i : Int} {s : Span} : s ∈ spansOf p i ↔ ∃ w ∈ p.wishes, w.item = i ∧ s = (w.first, w.last + (p.obj i).rest) := by
  unfold spansOf endsOf
  rw [List.mem_map]
  constructor
  · rintro ⟨x, hx, rfl⟩
    rw [(sortP_perm _).mem_iff, List.mem_map] at hx
    obtain ⟨w, hw, rfl⟩ := hx
    obtain ⟨h1, h2⟩ := List.mem_filter.mp hw
    exact ⟨w, h1, of_decide_eq_true h2, rfl⟩
  · rintro ⟨w, hw, hi, rfl⟩
    refine ⟨(w.last + (p.obj i).rest, w.first), ?_, rfl⟩
    rw [(sortP_perm _).mem_iff, List.mem_map]
    exact ⟨w, List.mem_filter.mpr ⟨hw, decide_eq_true hi⟩, rfl⟩
theorem spans_len (p : Plan) (i : Int) : (spansOf p i).length ≤ p.wishes.length := by
  unfold spansOf endsOf
  rw [List.length_map, (sortP_perm _).length_eq, List.length_map]
  exact List.length_filter_le ..
theorem Plan.Ok.rest0 {p : Plan} (hp : p.Ok) {i : Int} (hi : InObj p i) : 0 ≤ (p.obj i).rest ∧ (p.obj i).rest ≤ 9 := by
  have h := hp.os _ (p.obj_mem hi.1 hi.2)
  exact ⟨h.r0, h.r1⟩
theorem spans_srtd {p : Plan} (hp : p.Ok) {i : Int} (hi : InObj p i) : Srtd (spansOf p i) := by
  refine ⟨?_, fun s hs => ?_⟩
  · unfold spansOf
    rw [List.pairwise_map]
    refine (sortP_sorted _).imp fun {a b} h => ?_
    simp only [pairLt, Bool.or_eq_false_iff, Bool.and_eq_false_iff, decide_eq_false_iff_not] at h
    show a.1 ≤ b.1
    omega
  · obtain ⟨w, hw, _, rfl⟩ := mem_spans.mp hs
    have := (hp.ws w hw).fl
    have := (hp.rest0 hi).1
    show w.first ≤ w.last + _
    omega
theorem spans_bound {p : Plan} (hp : p.Ok) {i : Int} (hi : InObj p i) {s : Span} (h : s ∈ spansOf p i) : 0 ≤ s.1 ∧ s.2 ≤ 69 := by
  obtain ⟨w, hw, _, rfl⟩ := mem_spans.mp h
  have h1 := hp.ws w hw
  have := (hp.rest0 hi).2
  exact ⟨h1.f0, by have := h1.l1; show w.last + _ ≤ _; omega⟩
theorem loans_least {p : Plan} (hp : p.Ok) {i : Int} (hi : InObj p i) {ks : List Int} (h : meets (spansOf p i) ks = true) : loansOf p i ≤ ks.length := ends_least (spans_srtd hp hi) h
/-- spans that hold spans of the other plan are met with them -/
theorem meets_hold {l m : List Span} (h : ∀ s ∈ m, ∃ t ∈ l, s.1 ≤ t.1 ∧ t.2 ≤ s.2) {ks : List Int} (k : meets l ks = true) : meets m ks = true := meets_iff.mpr fun s hs => by
  obtain ⟨t, ht, h1, h2⟩ := h s hs
  obtain ⟨j, hj, j1, j2⟩ := meets_iff.mp k t ht
  exact ⟨j, hj, by omega, by omega⟩
theorem loans_hold {p q : Plan} (hp : p.Ok) (hq : q.Ok) {i j : Int} (hi : InObj p i) (hj : InObj q j) (h : ∀ s ∈ spansOf q j, ∃ t ∈ spansOf p i, s.1 ≤ t.1 ∧ t.2 ≤ s.2) : loansOf q j ≤ loansOf p i :=
  loans_least hq hj (meets_hold h (ends_meet (spans_srtd hp hi)))
/-- one span more needs one week more at most -/
theorem loans_one {p q : Plan} (hp : p.Ok) (hq : q.Ok) {i j : Int} (hi : InObj p i) (hj : InObj q j) (x : Span) (hx : x.1 ≤ x.2) (h : ∀ s ∈ spansOf q j, s = x ∨ s ∈ spansOf p i) : loansOf q j ≤ loansOf p i + 1 := by
  have := loans_least hq hj (ks := x.1 :: endsMet (spansOf p i)) (meets_iff.mpr fun s hs => by
    rcases h s hs with e | e
    · rw [e]; exact ⟨x.1, List.mem_cons_self, Int.le_refl _, hx⟩
    · obtain ⟨k, hk, k2⟩ := meets_iff.mp (ends_meet (spans_srtd hp hi)) s e
      exact ⟨k, List.mem_cons_of_mem _ hk, k2⟩)
  rw [List.length_cons] at this
  exact this
theorem meeting_is {p : Plan} (hp : p.Ok) {i : Int} (hi : InObj p i) : (meetingWeeks p i).length = loansOf p i ∧ asc (meetingWeeks p i) = true ∧ meets (spansOf p i) (meetingWeeks p i) = true := by
  obtain ⟨h1, h2, _, _, h3⟩ := firstWeeks_is _ (spansOf p i) (Nat.le_refl _) (spans_srtd hp hi)
  exact ⟨h1, h2, h3⟩
theorem loans_le (p : Plan) (i : Int) : loansOf p i ≤ p.wishes.length := Nat.le_trans (greedy_len _ _) (spans_len p i)
theorem all_isInt (ks : List Int) : (ks.map PyData.int).all isIntD = true := List.all_eq_true.mpr fun d hd => by
  obtain ⟨k, _, rfl⟩ := List.mem_map.mp hd
  rfl
theorem areMeeting_row (p : Plan) (i : Int) (ks : List Int) : areMeeting p i (eT ks) = (asc ks && meets (spansOf p i) ks) := by
  show ((ks.map PyData.int).all isIntD && (asc ((ks.map PyData.int).map toI) && meets (spansOf p i) ((ks.map PyData.int).map toI))) = _
  rw [all_isInt, map_toI, Bool.true_and]
theorem meeting_less {p : Plan} (hp : p.Ok) {i : Int} (hi : InObj p i) {j : Nat} (hj : j < loansOf p i) : areMeeting p i (eT (less (meetingWeeks p i) j)) = false := by
  rw [areMeeting_row, Bool.and_eq_false_iff]
  right
  rw [← Bool.not_eq_true]
  intro h
  have := loans_least hp hi h
  obtain ⟨h1, _⟩ := meeting_is hp hi
  have h2 := less_len (s := meetingWeeks p i) (i := j) (by omega)
  omega
/-- good wishes for an object lie apart -/
theorem good_loans {p : Plan} (hp : p.Ok) {s : List Int} (hs : SomeOk p s) (hg : good p s = true) {i : Int} (hi : InObj p i) : (s.filter fun x => decide ((p.wish x).item = i)).length ≤ loansOf p i := by
  have hf := ((areGood_iff hp (hs.gw hp)).mp ((good_eq hp hs).trans hg)).rest
  unfold named at hf
  rw [List.pairwise_map] at hf
  have h1 : ((s.filter fun x => decide ((p.wish x).item = i)).map fun x => ((p.wish x).first, (p.wish x).last + (p.obj i).rest)).length ≤ (endsMet (spansOf p i)).length := by
    refine apart_most (spans_srtd hp hi) (fun t ht => ?_) ?_
    · obtain ⟨x, hx, rfl⟩ := List.mem_map.mp ht
      obtain ⟨h1, h2⟩ := List.mem_filter.mp hx
      exact mem_spans.mpr ⟨p.wish x, p.wish_mem (hs.lo x h1) (hs.hi x h1), of_decide_eq_true h2, rfl⟩
    · unfold Aprt
      rw [List.pairwise_map]
      have hm : ∀ x ∈ s.filter fun x => decide ((p.wish x).item = i), (p.wish x).item = i := fun x hx => of_decide_eq_true (List.mem_filter.mp hx).2
      refine (hf.sublist List.filter_sublist).imp_of_mem fun {a b} ha hb h => ?_
      have ia := hm a ha
      have ib := hm b hb
      unfold tiredB at h
      rw [ia, ib] at h
      simp only [decide_true, Bool.true_and, Bool.not_eq_false', doRest, Bool.or_eq_true, decide_eq_true_eq] at h
      show (p.wish a).last + _ < (p.wish b).first ∨ (p.wish b).last + _ < (p.wish a).first
      omega
  rw [List.length_map] at h1
  exact h1
/-! the first wish taken away; an object without rest -/
def tailP (p : Plan) : Plan := ⟨p.houses, p.objects, p.wishes.drop 1⟩
theorem tailP_ok {p : Plan} (hp : p.Ok) : (tailP p).Ok := by
  refine ⟨hp.h1, hp.h4, hp.hs, hp.o1, hp.o4, hp.os, ?_, fun w hw => ?_⟩
  · show (p.wishes.drop 1).length ≤ 8
    rw [List.length_drop]; have := hp.w8; omega
  · have h := hp.ws w (List.mem_of_mem_drop hw)
    exact ⟨h.h0, h.h1, h.i0, h.i1, h.ne, h.f0, h.fl, h.l1⟩
theorem tailP_spans {p : Plan} {i : Int} {s : Span} (h : s ∈ spansOf (tailP p) i) : s ∈ spansOf p i := by
  obtain ⟨w, hw, hi, e⟩ := mem_spans.mp h
  exact mem_spans.mpr ⟨w, List.mem_of_mem_drop hw, hi, e⟩
theorem tailP_loans {p : Plan} (hp : p.Ok) {i : Int} (hi : InObj p i) : loansOf (tailP p) i = loansOf p i ∨ loansOf (tailP p) i + 1 = loansOf p i := by
  have h1 : loansOf (tailP p) i ≤ loansOf p i := loans_hold hp (tailP_ok hp) hi hi fun s hs => ⟨s, tailP_spans hs, Int.le_refl _, Int.le_refl _⟩
  have h2 : loansOf p i ≤ loansOf (tailP p) i + 1 := by
    cases q : p.wishes with
    | nil =>
      have := loans_le p i
      rw [q] at this
      simp at this
      omega
    | cons v l =>
      have hv := hp.ws v (by rw [q]; exact List.mem_cons_self)
      refine loans_one (tailP_ok hp) hp hi hi (v.first, v.last + (p.obj i).rest) (by have := hv.fl; have := (hp.rest0 hi).1; show v.first ≤ v.last + _; omega) fun s hs => ?_
      obtain ⟨w, hw, e1, e2⟩ := mem_spans.mp hs
      rw [q] at hw
      rcases List.mem_cons.mp hw with e | e
      · left; rw [e2, e]
      · right
        exact mem_spans.mpr ⟨w, by show w ∈ p.wishes.drop 1; rw [q]; exact e, e1, e2⟩
  omega
def setO (p : Plan) (i : Nat) (o : Obj) : Plan := ⟨p.houses, p.objects.take i ++ [o] ++ p.objects.drop (i + 1), p.wishes⟩
theorem setO_len {p : Plan} {i : Nat} (hi : i < p.objects.length) (o : Obj) : (setO p i o).objects.length = p.objects.length := by
  show (p.objects.take i ++ [o] ++ p.objects.drop (i + 1)).length = _
  rw [List.length_append, List.length_append, List.length_take, List.length_drop, List.length_singleton]
  omega
theorem setO_obj {p : Plan} {i : Nat} (hi : i < p.objects.length) (o : Obj) (j : Int) (h0 : 0 ≤ j) : (setO p i o).obj j = if j = i then o else p.obj j := by
  obtain ⟨k, rfl⟩ : ∃ k : Nat, j = k := ⟨j.toNat, by omega⟩
  unfold Plan.obj setO
  rw [Int.toNat_natCast]
  simp only [List.getD]
  have hti : (p.objects.take i).length = i := by rw [List.length_take]; omega
  rcases Nat.lt_trichotomy k i with c | c | c
  · rw [if_neg (by omega), List.append_assoc, List.getElem?_append_left (by omega), List.getElem?_take_of_lt c]
  · subst c
    rw [if_pos rfl, List.append_assoc, List.getElem?_append_right (by omega), hti, Nat.sub_self]
    rfl
  · rw [if_neg (by omega), List.getElem?_append_right (by rw [List.length_append, hti, List.length_singleton]; omega), List.length_append, hti, List.length_singleton, List.getElem?_drop]
    congr 3
    omega
theorem setO_ok {p : Plan} (hp : p.Ok) {i : Nat} (hi : i < p.objects.length) {o : Obj} (ho : o.Ok p.houses.length) (hh : o.home = (p.obj i).home) : (setO p i o).Ok := by
  have l := setO_len hi o
  refine ⟨hp.h1, hp.h4, hp.hs, by rw [l]; exact hp.o1, by rw [l]; exact hp.o4, fun x hx => ?_, hp.w8, fun w hw => ?_⟩
  · rcases List.mem_append.mp hx with hx | hx
    · rcases List.mem_append.mp hx with hx | hx
      · exact hp.os x (List.mem_of_mem_take hx)
      · rw [List.mem_singleton.mp hx]; exact ho
    · exact hp.os x (List.mem_of_mem_drop hx)
  · have h := hp.ws w hw
    refine ⟨h.h0, h.h1, h.i0, by rw [l]; exact h.i1, ?_, h.f0, h.fl, h.l1⟩
    rw [setO_obj hi o _ h.i0]
    by_cases c : w.item = i
    · rw [if_pos c, hh, ← c]; exact h.ne
    · rw [if_neg c]; exact h.ne
def quickO (o : Obj) : Obj := ⟨o.home, o.value, 0, o.light⟩
def quickP (p : Plan) (i : Nat) : Plan := setO p i (quickO (p.obj i))
theorem quickP_ok {p : Plan} (hp : p.Ok) {i : Nat} (hi : i < p.objects.length) : (quickP p i).Ok := by
  have h := hp.os _ (p.obj_mem (i := (i : Int)) (by omega) (by omega))
  exact setO_ok hp hi ⟨h.h0, h.h1, h.v0, h.v1, by show (0 : Int) ≤ 0; omega, by show (0 : Int) ≤ 9; omega, h.l0, h.l1⟩ rfl
theorem quickP_in {p : Plan} {i : Nat} (hi : i < p.objects.length) : InObj (quickP p i) i := by
  refine ⟨by omega, ?_⟩
  show (i : Int) < ((setO p i _).objects.length : Nat)
  rw [setO_len hi]; omega
theorem quickP_loans {p : Plan} (hp : p.Ok) {i : Nat} (hi : i < p.objects.length) : loansOf p i ≤ loansOf (quickP p i) i := by
  have ip : InObj p i := ⟨by omega, by omega⟩
  refine loans_hold (quickP_ok hp hi) hp (quickP_in hi) ip fun s hs => ?_
  obtain ⟨w, hw, e, rfl⟩ := mem_spans.mp hs
  refine ⟨(w.first, w.last + ((quickP p i).obj i).rest), mem_spans.mpr ⟨w, hw, e, rfl⟩, Int.le_refl _, ?_⟩
  show w.last + ((setO p i _).obj i).rest ≤ w.last + (p.obj i).rest
  rw [setO_obj hi _ _ (by omega), if_pos rfl]
  have := (hp.rest0 ip).1
  show w.last + 0 ≤ _
  omega
/-! ## journeys -/
def wLt (a b : Wish) : Bool := if a.first = b.first then decide ([a.house, a.item, a.first, a.last] < [b.house, b.item, b.first, b.last]) else decide (a.first < b.first)
def sortW (l : List Wish) : List Wish := l.mergeSort fun a b => !wLt b a
theorem sortW_perm (l : List Wish) : (sortW l).Perm l := List.mergeSort_perm ..
theorem sortW_nil : sortW [] = [] := List.eq_nil_of_length_eq_zero (sortW_perm []).length_eq
def tripStep (wait : Int) (a b : Wish) : Int := if wait < b.first - a.last - 1 then 2 else if b.house = a.house then 0 else 1
def tripsOn (wait : Int) : List Wish → Int
  | a :: b :: l => tripStep wait a b + tripsOn wait (b :: l)
  | _ => 0
def trips (l : List Wish) (wait : Int) : Int := if l.isEmpty then 0 else 2 + tripsOn wait l
theorem trips_zip (wait : Int) : ∀ l : List Wish, ((l.zip (l.drop 1)).map fun x => tripStep wait x.1 x.2).sum = tripsOn wait l
  | [] => rfl
  | [_] => rfl
  | a :: b :: r => by
    have ih := trips_zip wait (b :: r)
    simp only [List.drop_succ_cons, List.drop_zero] at ih ⊢
    rw [List.zip_cons_cons, List.map_cons, List.sum_cons, ih]
    rfl
def itemW (p : Plan) (s : List Int) (i : Int) : List Wish := (named p s).filter fun w => decide (w.item = i)
def itemTrips (p : Plan) (s : List Int) (wait i : Int) : Int := trips (sortW (itemW p s i)) wait
def journeysN (p : Plan) (s : List Int) (wait : Int) (n : Nat) : Int := ((rangeD 0 n).map (itemTrips p s wait)).sum
def journeysOf (p : Plan) (s : List Int) (wait : Int) : Int := journeysN p s wait p.objects.length
theorem journeysN_succ (p : Plan) (s : List Int) (wait : Int) (n : Nat) : journeysN p s wait (n + 1) = journeysN p s wait n + itemTrips p s wait n := by
  unfold journeysN
  rw [rangeD_succ, List.map_append, List.sum_append]
  simp
theorem tripStep_le (wait : Int) (a b : Wish) : 0 ≤ tripStep wait a b ∧ tripStep wait a b ≤ 2 := by
  unfold tripStep
  split
  · omega
  · split <;> omega
theorem tripsOn_le (wait : Int) : ∀ (l : List Wish), 0 ≤ tripsOn wait l ∧ (l ≠ [] → tripsOn wait l + 2 ≤ 2 * l.length)
  | [] => ⟨Int.le_refl _, fun h => absurd rfl h⟩
  | [a] => ⟨Int.le_refl _, fun _ => by simp [tripsOn]⟩
  | a :: b :: l => by
    obtain ⟨h1, h2⟩ := tripsOn_le wait (b :: l)
    have h3 := h2 (by simp)
    have h4 := tripStep_le wait a b
    have e : tripsOn wait (a :: b :: l) = tripStep wait a b + tripsOn wait (b :: l) := rfl
    rw [e]
    rw [List.length_cons] at h3
    refine ⟨by omega, fun _ => ?_⟩
    rw [List.length_cons, List.length_cons]
    omega
theorem trips_le (l : List Wish) (wait : Int) : trips l wait ≤ 2 * l.length ∧ 0 ≤ trips l wait ∧ (l ≠ [] → 2 ≤ trips l wait) := by
  unfold trips
  cases l with
  | nil => exact ⟨Int.le_refl _, Int.le_refl _, fun h => absurd rfl h⟩
  | cons a l =>
    obtain ⟨h1, h2⟩ := tripsOn_le wait (a :: l)
    have := h2 (by simp)
    rw [if_neg (by simp)]
    exact ⟨by omega, by omega, fun _ => by omega⟩
theorem tripsOn_wait (wait : Int) : ∀ l : List Wish, tripsOn (wait + 1) l ≤ tripsOn wait l
  | [] => Int.le_refl _
  | [_] => Int.le_refl _
  | a :: b :: l => by
    have ih := tripsOn_wait wait (b :: l)
    have e : tripStep (wait + 1) a b ≤ tripStep wait a b := by
      unfold tripStep
      split
      · rw [if_pos (by omega)]; omega
      · split
        · split <;> omega
        · split <;> omega
    show tripStep (wait + 1) a b + _ ≤ tripStep wait a b + _
    omega
theorem trips_wait (wait : Int) (l : List Wish) : trips l (wait + 1) ≤ trips l wait := by
  unfold trips
  have := tripsOn_wait wait l
  split <;> omega
theorem sum_map_le {α : Type} (f g : α → Int) (h : ∀ x, f x ≤ g x) : ∀ l : List α, (l.map f).sum ≤ (l.map g).sum
  | [] => Int.le_refl _
  | a :: l => by
    have := sum_map_le f g h l
    have := h a
    rw [List.map_cons, List.map_cons, List.sum_cons, List.sum_cons]; omega
theorem journeys_wait (p : Plan) (s : List Int) (wait : Int) : journeysOf p s (wait + 1) ≤ journeysOf p s wait := sum_map_le _ _ (fun i => trips_wait wait _) _
theorem sortW_len (l : List Wish) : (sortW l).length = l.length := (sortW_perm l).length_eq
/-- every wish is for one of the objects -/
theorem item_sum : ∀ (ws : List Wish) (n : Nat), (∀ w ∈ ws, 0 ≤ w.item ∧ w.item < n) → ((rangeD 0 n).map fun i => (((ws.filter fun w => decide (w.item = i)).length : Nat) : Int)).sum = ws.length
  | [], n, _ => by
    have : ∀ l : List Int, (l.map fun i => ((([] : List Wish).filter fun w => decide (w.item = i)).length : Int)).sum = 0 := fun l => by
      induction l with
      | nil => rfl
      | cons a l ih => rw [List.map_cons, List.sum_cons, ih]; rfl
    exact this _
  | w :: ws, n, h => by
    have ih := item_sum ws n fun v hv => h v (List.mem_cons_of_mem _ hv)
    obtain ⟨h0, h1⟩ := h w List.mem_cons_self
    have step : ∀ l : List Int, l.Nodup → (l.map fun i => (((w :: ws).filter fun w => decide (w.item = i)).length : Int)).sum = (l.map fun i => ((ws.filter fun w => decide (w.item = i)).length : Int)).sum + if w.item ∈ l then 1 else 0 := by
      intro l
      induction l with
      | nil => intro _; rfl
      | cons a l ihl =>
        intro hn
        obtain ⟨n1, n2⟩ := List.nodup_cons.mp hn
        rw [List.map_cons, List.map_cons, List.sum_cons, List.sum_cons, ihl n2]
        by_cases c : w.item = a
        · rw [List.filter_cons_of_pos (by simpa using c), List.length_cons, if_neg (by rw [c]; exact n1), if_pos (by rw [c]; exact List.mem_cons_self)]
          omega
        · rw [List.filter_cons_of_neg (by simpa using c)]
          by_cases d : w.item ∈ l
          · rw [if_pos d, if_pos (List.mem_cons_of_mem _ d)]; omega
          · rw [if_neg d, if_neg (by simp [c, d])]; omega
    have nd : (rangeD 0 n).Nodup := (asc_range 0 n).imp fun h => by omega
    rw [step _ nd, ih, if_pos (rangeD_mem.mpr ⟨h0, by omega⟩), List.length_cons]
    omega
theorem journeys_le {p : Plan} {s : List Int} (hp : p.Ok) (hs : SomeOk p s) (wait : Int) : journeysOf p s wait ≤ 2 * s.length := by
  have h1 : journeysOf p s wait ≤ ((rangeD 0 p.objects.length).map fun i => 2 * (((itemW p s i).length : Nat) : Int)).sum := sum_map_le _ _ (fun i => by
    have := (trips_le (sortW (itemW p s i)) wait).1
    rw [sortW_len] at this
    exact this) _
  have h2 : ∀ l : List Int, (l.map fun i => 2 * (((itemW p s i).length : Nat) : Int)).sum = 2 * (l.map fun i => (((itemW p s i).length : Nat) : Int)).sum := fun l => by
    induction l with
    | nil => rfl
    | cons a l ih => rw [List.map_cons, List.map_cons, List.sum_cons, List.sum_cons, ih]; omega
  have h3 := item_sum (named p s) p.objects.length fun w hw => (hs.wsok hp).it w hw
  have h4 : (named p s).length = s.length := by unfold named; rw [List.length_map]
  rw [h2] at h1
  have h5 : ((rangeD 0 p.objects.length).map fun i => (((itemW p s i).length : Nat) : Int)).sum = s.length := by rw [← h4]; exact h3
  omega
theorem sum_nonneg' {α : Type} (f : α → Int) (h : ∀ x, 0 ≤ f x) {l : List α} {a : α} (ha : a ∈ l) : f a ≤ (l.map f).sum := by
  induction l with
  | nil => cases ha
  | cons b l ih =>
    rw [List.map_cons, List.sum_cons]
    have pos : ∀ l : List α, 0 ≤ (l.map f).sum := fun l => by
      induction l with
      | nil => exact Int.le_refl _
      | cons c l ih => rw [List.map_cons, List.sum_cons]; have := h c; omega
    rcases List.mem_cons.mp ha with e | e
    · subst e; have := pos l; omega
    · have := ih e; have := h b; omega
theorem journeys_ge {p : Plan} {s : List Int} (hp : p.Ok) (hs : SomeOk p s) (wait : Int) (h : s ≠ []) : 2 ≤ journeysOf p s wait := by
  cases s with
  | nil => exact absurd rfl h
  | cons x l =>
    have hx := (hs.wsok hp).it (p.wish x) List.mem_cons_self
    have h1 : itemTrips p (x :: l) wait (p.wish x).item ≤ journeysOf p (x :: l) wait := sum_nonneg' (itemTrips p (x :: l) wait) (fun i => (trips_le _ wait).2.1) (rangeD_mem.mpr ⟨hx.1, by omega⟩)
    have h2 : 2 ≤ itemTrips p (x :: l) wait (p.wish x).item := (trips_le _ wait).2.2 fun e => by
      have : p.wish x ∈ sortW (itemW p (x :: l) (p.wish x).item) := (sortW_perm _).mem_iff.mpr (List.mem_filter.mpr ⟨List.mem_cons_self, decide_eq_true rfl⟩)
      rw [e] at this; cases this
    omega
theorem journeys_nil (p : Plan) (wait : Int) : journeysOf p [] wait = 0 := by
  have : ∀ l : List Int, (l.map (itemTrips p [] wait)).sum = 0 := fun l => by
    induction l with
    | nil => rfl
    | cons a l ih =>
      rw [List.map_cons, List.sum_cons, ih]
      show trips (sortW []) wait + 0 = 0
      rw [sortW_nil]; rfl
  exact this _
theorem journeys_one {p : Plan} (hp : p.Ok) {x : Int} (hs : SomeOk p [x]) (wait : Int) : journeysOf p [x] wait = 2 := by
  have h1 := journeys_le hp hs wait
  have h2 := journeys_ge hp hs wait (by simp)
  simp at h1
  omega
/-- only the wishes for one object -/
def partOf (p : Plan) (s : List Int) (i : Int) : List Int := s.filter fun x => decide ((p.wish x).item = i)
theorem part_item {p : Plan} {s : List Int} {i j : Int} : itemW p (partOf p s i) j = if j = i then itemW p s i else [] := by
  unfold itemW partOf named
  rw [filter_map', filter_map', List.filter_filter]
  by_cases c : j = i
  · rw [if_pos c, c]
    congr 1
    refine List.filter_congr fun x _ => ?_
    simp [Function.comp]
  · rw [if_neg c]
    rw [List.filter_eq_nil_iff.mpr]
    · rfl
    · intro x _
      simp only [Function.comp, Bool.and_eq_true, decide_eq_true_eq]
      omega
theorem journeys_part {p : Plan} {s : List Int} {i : Int} (hi : InObj p i) (wait : Int) : journeysOf p (partOf p s i) wait = itemTrips p s wait i := by
  have h : ∀ l : List Int, l.Nodup → (l.map (itemTrips p (partOf p s i) wait)).sum = if i ∈ l then itemTrips p s wait i else 0 := by
    intro l
    induction l with
    | nil => intro _; rfl
    | cons a l ih =>
      intro hn
      obtain ⟨n1, n2⟩ := List.nodup_cons.mp hn
      rw [List.map_cons, List.sum_cons, ih n2]
      have e : itemTrips p (partOf p s i) wait a = if a = i then itemTrips p s wait i else 0 := by
        unfold itemTrips
        rw [part_item]
        by_cases c : a = i
        · rw [if_pos c, if_pos c]
        · rw [if_neg c, if_neg c, sortW_nil]; rfl
      rw [e]
      by_cases c : a = i
      · rw [if_pos c, if_neg (by rw [← c]; exact n1), if_pos (by rw [c]; exact List.mem_cons_self)]; omega
      · rw [if_neg c]
        by_cases d : i ∈ l
        · rw [if_pos d, if_pos (List.mem_cons_of_mem _ d)]; omega
        · rw [if_neg d, if_neg (by simp [d, Ne.symm c])]; rfl
  have nd : (rangeD 0 p.objects.length).Nodup := (asc_range 0 _).imp fun h => by omega
  exact (h _ nd).trans (if_pos (rangeD_mem.mpr ⟨hi.1, by have := hi.2; omega⟩))
theorem part_some {p : Plan} {s : List Int} (hp : p.Ok) (hs : SomeOk p s) (hg : good p s = true) (i : Int) : SomeOk p (partOf p s i) ∧ good p (partOf p s i) = true :=
  ⟨hs.sub List.filter_sublist, good_sub hp hs List.filter_sublist hg⟩
theorem journeys_parts (p : Plan) (s : List Int) (wait : Int) : ((rangeD 0 p.objects.length).map fun i => journeysOf p (partOf p s i) wait).sum = journeysOf p s wait := by
  unfold journeysOf journeysN
  congr 1
  refine List.map_congr_left fun i hi => ?_
  have := rangeD_mem.mp hi
  exact journeys_part ⟨this.1, by omega⟩ wait
/-! data -/
abbrev eFW (w : Wish) : PyData := .tuple [.int w.first, eW w]
abbrev eLP (l : List (Int × Int)) : PyData := .list (l.map eII)
theorem lt_pair (a b : Int × Int) : PySem.W.dataLt (eII a) (eII b) = pairLt a b := by
  have h := lt_row [a.1, a.2] [b.1, b.2]
  refine h.trans ?_
  unfold pairLt
  rw [Bool.eq_iff_iff]
  simp [List.cons_lt_cons_iff]
theorem lt_fw (a b : Wish) : PySem.W.dataLt (eFW a) (eFW b) = wLt a b := by
  show PySem.W.dataLt (.tuple [.int a.first, rowD [a.house, a.item, a.first, a.last]]) (.tuple [.int b.first, rowD [b.house, b.item, b.first, b.last]]) = _
  rw [PySem.W.dataLt_pair (by simp [PySem.W.alike]) (alike_row _ _), eqv_row, lt_row, PySem.W.dataLt_int]
  unfold wLt
  by_cases e : a.first = b.first
  · rw [if_pos (by simp [PyData.eqv, e]), if_pos e]
    by_cases e2 : [a.house, a.item, a.first, a.last] = [b.house, b.item, b.first, b.last]
    · rw [if_pos (by simpa using e2), e2]; simp [List.lt_irrefl]
    · rw [if_neg (by simpa using e2)]
  · rw [if_neg (by simp [PyData.eqv]; omega), if_neg e]
theorem srt_pairs (l : List (Int × Int)) : Srt (l.map eII) := srt_enc eII (fun a => ⟨_, _, rfl⟩) (fun a b => alike_row [a.1, a.2] [b.1, b.2]) (fun a => by have := depth_row [a.1, a.2]; exact Nat.le_trans this (by decide)) l
theorem srt_fw (l : List Wish) : Srt (l.map eFW) := srt_enc eFW (fun a => ⟨_, _, rfl⟩) (fun a b => by
  have := alike_row [a.house, a.item, a.first, a.last] [b.house, b.item, b.first, b.last]
  simp only [PySem.W.alike, PySem.W.alikeAll] at this ⊢
  simp [this]) (fun a => by
  simp [PyData.depth, PyData.depthAll]) l
theorem sort_pairs (l : List (Int × Int)) : sortD (l.map eII) = (sortP l).map eII := sort_enc eII pairLt lt_pair l
theorem sort_fw (l : List Wish) : sortD (l.map eFW) = (sortW l).map eFW := sort_enc eFW wLt lt_fw l
theorem en_fw : En eFW 2 := ⟨fun w => shp_tuple (n := 1) fun d hd => by
    simp only [List.mem_cons, List.not_mem_nil, or_false] at hd
    rcases hd with h | h
    · rw [h]; exact (shp_int _).mono (by decide)
    · rw [h]; exact en_wish.shp w, fun a b => by
    simp only [PyData.eqv, PyData.eqvAll]
    have h := en_wish.eq a b
    simp only [PyData.eqv, PyData.eqvAll] at h
    rw [h, Bool.eq_iff_iff]
    simp
    intro e; rw [e]⟩
theorem find_at {q : Int → Bool} : ∀ {l : List Int} {i : Nat} {x : Int}, l[i]? = some x → q x = true → (∀ j, j < i → ∀ y, l[j]? = some y → q y = false) → l.find? q = some x
  | [], i, x, h, _, _ => by simp at h
  | a :: l, 0, x, h, hq, _ => by
    have e : a = x := by simpa using h
    subst e
    rw [List.find?_cons_of_pos hq]
  | a :: l, i + 1, x, h, hq, hn => by
    have h0 := hn 0 (by omega) a rfl
    rw [List.find?_cons_of_neg (by rw [h0]; exact Bool.false_ne_true)]
    exact find_at (i := i) (by simpa using h) hq fun j hj y hy => hn (j + 1) (by omega) y (by simpa using hy)
theorem ints_of_all {ds : List PyData} (h : ds.all isIntD = true) : ∃ ks : List Int, ds = ks.map PyData.int := by
  induction ds with
  | nil => exact ⟨[], rfl⟩
  | cons d ds ih =>
    rw [List.all_cons, Bool.and_eq_true] at h
    obtain ⟨ks, e⟩ := ih h.2
    have h1 := h.1
    cases d with
    | int k => exact ⟨k :: ks, by rw [List.map_cons, e]⟩
    | _ => simp [isIntD, PL.isInt, isBool] at h1
/-! contracts: single.py -/
def c_spans_of : Ct := ⟨Plan × Int, fun a => [eP a.1, .int a.2], fun a => a.1.Ok ∧ InObj a.1 a.2, fun a => Eq (eLP (spansOf a.1 a.2))⟩
def c_check_item : Ct := ⟨Plan × Int, fun a => [eP a.1, .int a.2], fun a => a.1.Ok ∧ InObj a.1 a.2, fun _ => Eq .none⟩
def c_ends_met : Ct := ⟨List Span, fun l => [eLP l], fun l => l.length ≤ 100, fun l => Eq (.list ((endsMet l).map PyData.int))⟩
def c_loans_of : Ct := ⟨Plan × Int, fun a => [eP a.1, .int a.2], fun a => a.1.Ok ∧ InObj a.1 a.2, fun a => Eq (.int (loansOf a.1 a.2 : Nat))⟩
def c_do_meet : Ct := ⟨List Span × List Int, fun a => [eLP a.1, eT a.2], fun _ => True, fun a => Eq (.bool (meets a.1 a.2))⟩
def c_first_weeks : Ct := ⟨List Span, fun l => [eLP l], fun l => Srtd l ∧ l.length ≤ 100 ∧ ∀ s ∈ l, 0 ≤ s.1 ∧ s.2 ≤ 100, fun l => Eq (eT (firstWeeks l))⟩
def c_meeting_weeks : Ct := ⟨Plan × Int, fun a => [eP a.1, .int a.2], fun a => a.1.Ok ∧ InObj a.1 a.2, fun a => Eq (eT (meetingWeeks a.1 a.2))⟩
def c_are_meeting_weeks : Ct := ⟨Plan × Int × PyData, fun a => [eP a.1, .int a.2.1, a.2.2], fun a => a.1.Ok ∧ InObj a.1 a.2.1, fun a => Eq (.bool (areMeeting a.1 a.2.1 a.2.2))⟩
def c_trips : Ct := ⟨List Wish × Int, fun a => [eLW a.1, .int a.2], fun a => a.1.length ≤ 100, fun a => Eq (.int (trips a.1 a.2))⟩
def c_journeys : Ct := ⟨Plan × List Int × Int, fun a => [eP a.1, eT a.2.1, .int a.2.2], fun a => a.1.Ok ∧ SomeOk a.1 a.2.1 ∧ (0 ≤ a.2.2 ∧ a.2.2 ≤ 60) ∧ good a.1 a.2.1 = true, fun a => Eq (.int (journeysOf a.1 a.2.1 a.2.2))⟩
def c_law_object : Ct := ⟨Plan × Nat, fun a => [eP a.1, .int a.2], fun a => a.1.Ok ∧ a.2 < a.1.objects.length, fun _ => Eq (.bool true)⟩
end Mus

namespace Mus
open PySem PySem.Spec PyProof.Rows L2 PL
/-! ## mirrors: limits.py -/
def maxI : List Int → Int
  | [] => 0
  | a :: l => l.foldl (fun m x => if m < x then x else m) a
theorem foldl_maxI : ∀ (l : List Int) (a : Int), a ≤ (l.foldl (fun m x => if m < x then x else m) a) ∧ (∀ x ∈ l, x ≤ (l.foldl (fun m x => if m < x then x else m) a)) ∧ (l.foldl (fun m x => if m < x then x else m) a ∈ a :: l)
  | [], a => ⟨Int.le_refl _, by simp, List.mem_cons_self⟩
  | b :: l, a => by
    obtain ⟨h1, h2, h3⟩ := foldl_maxI l (if a < b then b else a)
    rw [List.foldl_cons]
    refine ⟨?_, fun x hx => ?_, ?_⟩
    · split at h1 <;> rename_i c
      · rw [if_pos c]; omega
      · rw [if_neg c]; exact h1
    · rcases List.mem_cons.mp hx with e | e
      · subst e
        split at h1 <;> rename_i c
        · rw [if_pos c]; exact h1
        · rw [if_neg c]; omega
      · exact h2 x e
    · rcases List.mem_cons.mp h3 with e | e
      · rw [e]
        by_cases c : a < b
        · rw [if_pos c]; exact List.mem_cons_of_mem _ List.mem_cons_self
        · rw [if_neg c]; exact List.mem_cons_self
      · exact List.mem_cons_of_mem _ (List.mem_cons_of_mem _ e)
theorem maxI_ge {l : List Int} {x : Int} (h : x ∈ l) : x ≤ maxI l := by
  cases l with
  | nil => cases h
  | cons a l =>
    rcases List.mem_cons.mp h with e | e
    · rw [e]; exact (foldl_maxI l a).1
    · exact (foldl_maxI l a).2.1 x e
theorem maxI_mem {l : List Int} (h : l ≠ []) : maxI l ∈ l := by
  cases l with
  | nil => exact absurd rfl h
  | cons a l => exact (foldl_maxI l a).2.2
def newW (h i weeks k : Int) : Wish := ⟨h, i, k, k + weeks - 1⟩
def fitsAt (p : Plan) (s : List Int) (h i weeks k : Int) : Bool := areGood p (named p s ++ [newW h i weeks k])
def fwR (weeks begin_ : Int) : List Int := rangeD begin_ (62 - weeks - begin_).toNat
def firstWeek (p : Plan) (s : List Int) (h i weeks begin_ : Int) : Option Int := (fwR weeks begin_).find? (fitsAt p s h i weeks)
def leastLimit (p : Plan) (s : List Int) (h : Int) : Int := maxI ((rangeD 0 61).map fun k => valueAt p (named p s) h k)
def leastLight (p : Plan) (s : List Int) (i : Int) : Int := weeksOf (named p s) i
def restsBetween (r : Int) : List Wish → Bool
  | [] => true
  | a :: l => l.all (fun b => doRest a b r) && restsBetween r l
def restsOk (p : Plan) (s : List Int) (i : Int) : List Int := (rangeD 0 10).filter fun r => restsBetween r (itemW p s i)
def mostRest (p : Plan) (s : List Int) (i : Int) : Option Int := if (restsOk p s i).isEmpty then none else some (maxI (restsOk p s i))
theorem limit_ge (p : Plan) (s : List Int) (h : Int) {k : Int} (h0 : 0 ≤ k) (h1 : k ≤ 60) : valueAt p (named p s) h k ≤ leastLimit p s h := maxI_ge (List.mem_map.mpr ⟨k, rangeD_mem.mpr (by omega), rfl⟩)
theorem limit_at (p : Plan) (s : List Int) (h : Int) : ∃ k, 0 ≤ k ∧ k ≤ 60 ∧ valueAt p (named p s) h k = leastLimit p s h := by
  obtain ⟨k, hk, e⟩ := List.mem_map.mp (maxI_mem (l := (rangeD 0 61).map fun k => valueAt p (named p s) h k) (fun z => by
    have := congrArg List.length z
    rw [List.length_map, rangeD_len] at this
    cases this))
  have := rangeD_mem.mp hk
  exact ⟨k, this.1, by omega, e⟩
theorem value_nonneg {p : Plan} {ws : List Wish} (hp : p.Ok) (hw : ∀ w ∈ ws, 0 ≤ w.item ∧ w.item < p.objects.length) (h k : Int) : 0 ≤ valueAt p ws h k := by
  unfold valueAt
  have : ∀ l : List Wish, (∀ w ∈ l, 0 ≤ w.item ∧ w.item < p.objects.length) → 0 ≤ (l.map fun w => (p.obj w.item).value).sum := fun l => by
    induction l with
    | nil => intro _; exact Int.le_refl _
    | cons a l ih =>
      intro hl
      rw [List.map_cons, List.sum_cons]
      have h1 := ih fun w hw => hl w (List.mem_cons_of_mem _ hw)
      have h2 := hl a List.mem_cons_self
      have h3 := (hp.os _ (p.obj_mem h2.1 h2.2)).v0
      omega
  exact this _ fun w hw' => hw w (List.mem_filter.mp hw').1
theorem limit_nonneg {p : Plan} {s : List Int} (hp : p.Ok) (hs : SomeOk p s) (h : Int) : 0 ≤ leastLimit p s h :=
  Int.le_trans (value_nonneg hp (hs.wsok hp).it h 0) (limit_ge p s h (Int.le_refl _) (by decide))
theorem rests_iff {r : Int} {l : List Wish} : restsBetween r l = true ↔ l.Pairwise fun a b => doRest a b r = true := by
  induction l with
  | nil => simp [restsBetween]
  | cons a l ih =>
    unfold restsBetween
    rw [Bool.and_eq_true, List.all_eq_true, ih, List.pairwise_cons]
theorem rests_mono {r t : Int} (h : r ≤ t) {l : List Wish} (k : restsBetween t l = true) : restsBetween r l = true := by
  rw [rests_iff] at k ⊢
  refine k.imp fun {a b} h => ?_
  simp only [doRest, Bool.or_eq_true, decide_eq_true_eq] at h ⊢
  omega
/-- is a rest worn: is it more than the most that is kept -/
def worn (p : Plan) (s : List Int) (i r : Int) : Bool := match mostRest p s i with
  | none => true
  | some m => decide (m < r)
theorem worn_iff {p : Plan} {s : List Int} {i r : Int} (h0 : 0 ≤ r) (h9 : r ≤ 9) : worn p s i r = !restsBetween r (itemW p s i) := by
  unfold worn mostRest
  by_cases c : (restsOk p s i).isEmpty = true
  · rw [if_pos c]
    have : r ∉ restsOk p s i := by rw [List.isEmpty_iff.mp c]; simp
    unfold restsOk at this
    rw [List.mem_filter, rangeD_mem] at this
    cases q : restsBetween r (itemW p s i) with
    | false => rfl
    | true => exact absurd ⟨by omega, q⟩ this
  · rw [if_neg c]
    have ne : restsOk p s i ≠ [] := fun z => c (by rw [z]; rfl)
    have hm := maxI_mem ne
    unfold restsOk at hm
    obtain ⟨m1, m2⟩ := List.mem_filter.mp hm
    show decide (maxI (restsOk p s i) < r) = _
    rw [Bool.eq_iff_iff, decide_eq_true_iff, Bool.not_eq_true']
    constructor
    · intro h
      rw [← Bool.not_eq_true]
      intro q
      have : r ∈ restsOk p s i := List.mem_filter.mpr ⟨rangeD_mem.mpr (by omega), q⟩
      have := maxI_ge this
      omega
    · intro q
      refine Int.not_le.mp fun h => ?_
      have := rests_mono h m2
      rw [q] at this; cases this
theorem pair_sub {α : Type} {R : α → α → Prop} {l : List α} : l.Pairwise R ↔ ∀ a b, [a, b].Sublist l → R a b := by
  exact ⟨fun h a b k => List.pairwise_iff_forall_sublist.mp h k, fun h => List.pairwise_iff_forall_sublist.mpr fun {a b} k => h a b k⟩
theorem items_rest {p : Plan} {ws : List Wish} (hw : ∀ w ∈ ws, 0 ≤ w.item ∧ w.item < p.objects.length) : (∀ i : Int, 0 ≤ i → i < p.objects.length → restsBetween (p.obj i).rest (ws.filter fun w => decide (w.item = i)) = true) ↔ ws.Pairwise fun a b => tiredB p a b = false := by
  constructor
  · intro h
    rw [pair_sub]
    intro a b k
    unfold tiredB
    by_cases c : a.item = b.item
    · have ha := hw a (k.subset List.mem_cons_self)
      have h1 := rests_iff.mp (h a.item ha.1 ha.2)
      rw [pair_sub] at h1
      have k2 := k.filter fun w => decide (w.item = a.item)
      rw [List.filter_cons_of_pos (by simp), List.filter_cons_of_pos (by simp [c])] at k2
      rw [h1 a b k2, decide_eq_true c]; rfl
    · rw [decide_eq_false c]; rfl
  · intro h i _ _
    rw [rests_iff]
    refine (h.sublist List.filter_sublist).imp_of_mem fun {a b} ha hb q => ?_
    have ia := of_decide_eq_true (List.mem_filter.mp ha).2
    have ib := of_decide_eq_true (List.mem_filter.mp hb).2
    unfold tiredB at q
    rw [ia, ib] at q
    simpa using q
/-! which kinds of reasons there are -/
def fullL (p : Plan) (s : List Int) : List Int := (p.houses.zipIdx.filter fun x => decide (x.1 < leastLimit p s x.2)).map fun x => (x.2 : Int)
def dullL (p : Plan) (s : List Int) : List Int := (p.objects.zipIdx.filter fun x => decide (x.1.light < leastLight p s x.2)).map fun x => (x.2 : Int)
def wornN (p : Plan) (s : List Int) (n : Nat) : List Int := ((p.objects.zipIdx.take n).filter fun x => worn p s x.2 x.1.rest).map fun x => (x.2 : Int)
theorem any_app {α : Type} (q : α → Bool) (a b : List α) : (a ++ b).any q = (a.any q || b.any q) := List.any_append
theorem any_const {α β : Type} (f : α → β) (q : β → Bool) (c : Bool) (h : ∀ x, q (f x) = c) : ∀ l : List α, (l.map f).any q = (c && !l.isEmpty)
  | [] => by simp
  | a :: l => by
    rw [List.map_cons, List.any_cons, h, any_const f q c h l]
    cases c <;> simp
theorem any_value (p : Plan) (s : List Int) : (reasonsOf p s).any isValue = !(crowded p (named p s)).isEmpty := by
  unfold reasonsOf
  rw [any_app, any_app, any_const _ isValue false (fun _ => rfl), any_const _ isValue false (fun _ => rfl), any_const _ isValue true (fun _ => rfl)]
  simp
theorem any_rest (p : Plan) (s : List Int) : (reasonsOf p s).any isRest = !(tired p (named p s)).isEmpty := by
  unfold reasonsOf
  rw [any_app, any_app, any_const _ isRest false (fun _ => rfl), any_const _ isRest true (fun _ => rfl), any_const _ isRest false (fun _ => rfl)]
  simp
theorem any_light (p : Plan) (s : List Int) : (reasonsOf p s).any isLight = !(bleached p (named p s)).isEmpty := by
  unfold reasonsOf
  rw [any_app, any_app, any_const _ isLight true (fun _ => rfl), any_const _ isLight false (fun _ => rfl), any_const _ isLight false (fun _ => rfl)]
  simp
theorem houses_zip {p : Plan} {x : Int × Nat} (h : x ∈ p.houses.zipIdx) : (0 ≤ (x.2 : Int) ∧ (x.2 : Int) < p.houses.length) ∧ p.lim x.2 = x.1 := by
  obtain ⟨i, hi⟩ := List.getElem?_of_mem h
  obtain ⟨h1, h2⟩ := zipIdx_get hi
  have hl := (List.getElem?_eq_some_iff.mp h1).1
  refine ⟨by omega, ?_⟩
  unfold Plan.lim
  rw [h2, Int.toNat_natCast, List.getD, h1]; rfl
theorem objects_zip {p : Plan} {x : Obj × Nat} (h : x ∈ p.objects.zipIdx) : (0 ≤ (x.2 : Int) ∧ (x.2 : Int) < p.objects.length) ∧ p.obj x.2 = x.1 := by
  obtain ⟨i, hi⟩ := List.getElem?_of_mem h
  obtain ⟨h1, h2⟩ := zipIdx_get hi
  have hl := (List.getElem?_eq_some_iff.mp h1).1
  refine ⟨by omega, ?_⟩
  unfold Plan.obj
  rw [h2, Int.toNat_natCast, List.getD, h1]; rfl
theorem zip_at {α : Type} {l : List α} {i : Int} (h0 : 0 ≤ i) (h1 : i < l.length) : ∃ a, (a, i.toNat) ∈ l.zipIdx := by
  have hl : i.toNat < l.length := by omega
  exact ⟨l[i.toNat], by rw [List.mem_zipIdx_iff_getElem?]; exact List.getElem?_eq_getElem hl⟩
theorem value_full (p : Plan) (s : List Int) : (reasonsOf p s).any isValue = !(fullL p s).isEmpty := by
  rw [any_value]
  congr 1
  rw [Bool.eq_iff_iff, crowded_nil]
  unfold fullL
  rw [List.isEmpty_map, List.isEmpty_iff, List.filter_eq_nil_iff]
  constructor
  · intro h x hx
    obtain ⟨hr, hl⟩ := houses_zip hx
    obtain ⟨k, k0, k1, e⟩ := limit_at p s x.2
    have := h x.2 k hr.1 hr.2 k0 k1
    rw [decide_eq_true_iff]
    omega
  · intro h a k a0 a1 k0 k1
    obtain ⟨v, hv⟩ := zip_at a0 a1
    have h1 := h _ hv
    obtain ⟨hr, hl⟩ := houses_zip hv
    have e : ((a.toNat : Nat) : Int) = a := by omega
    simp only [decide_eq_true_eq] at h1
    rw [show (((v, a.toNat).2 : Nat) : Int) = a from e] at hl h1
    have := limit_ge p s a k0 k1
    have e2 : (v, a.toNat).1 = v := rfl
    rw [e2] at hl
    omega
theorem light_dull (p : Plan) (s : List Int) : (reasonsOf p s).any isLight = !(dullL p s).isEmpty := by
  rw [any_light]
  congr 1
  rw [Bool.eq_iff_iff, bleached_nil]
  unfold dullL
  rw [List.isEmpty_map, List.isEmpty_iff, List.filter_eq_nil_iff]
  constructor
  · intro h x hx
    obtain ⟨hr, hl⟩ := objects_zip hx
    have := h x.2 hr.1 hr.2
    rw [decide_eq_true_iff, ← hl]
    show ¬ (_ < weeksOf (named p s) x.2)
    omega
  · intro h a a0 a1
    obtain ⟨v, hv⟩ := zip_at a0 a1
    have h1 := h _ hv
    obtain ⟨hr, hl⟩ := objects_zip hv
    have e : ((a.toNat : Nat) : Int) = a := by omega
    simp only [decide_eq_true_eq] at h1
    rw [show (((v, a.toNat).2 : Nat) : Int) = a from e] at hl h1
    have e2 : (v, a.toNat).1 = v := rfl
    rw [e2] at hl
    rw [hl]
    have : ¬ (v.light < weeksOf (named p s) a) := h1
    omega
theorem rest_worn {p : Plan} {s : List Int} (hp : p.Ok) (hs : SomeOk p s) : (reasonsOf p s).any isRest = !(wornN p s p.objects.length).isEmpty := by
  rw [any_rest]
  congr 1
  rw [Bool.eq_iff_iff, tired_nil, ← items_rest (hs.wsok hp).it]
  unfold wornN
  rw [List.isEmpty_map, List.isEmpty_iff, List.take_of_length_le (by rw [List.length_zipIdx]; exact Nat.le_refl _), List.filter_eq_nil_iff]
  have rb : ∀ i : Int, 0 ≤ i → i < p.objects.length → 0 ≤ (p.obj i).rest ∧ (p.obj i).rest ≤ 9 := fun i h0 h1 => hp.rest0 ⟨h0, h1⟩
  constructor
  · intro h x hx
    obtain ⟨hr, hl⟩ := objects_zip hx
    have h1 := h x.2 hr.1 hr.2
    have h2 := rb x.2 hr.1 hr.2
    rw [← hl, worn_iff h2.1 h2.2]
    show ¬ (!restsBetween (p.obj x.2).rest (itemW p s x.2)) = true
    unfold itemW
    rw [h1]
    exact Bool.false_ne_true
  · intro h a a0 a1
    obtain ⟨v, hv⟩ := zip_at a0 a1
    have h1 := h _ hv
    obtain ⟨hr, hl⟩ := objects_zip hv
    have e : ((a.toNat : Nat) : Int) = a := by omega
    rw [show (((v, a.toNat).2 : Nat) : Int) = a from e] at hl
    have e2 : (v, a.toNat).1 = v := rfl
    rw [e2] at hl
    have h2 := rb a a0 a1
    have h3 : ¬ worn p s a v.rest = true := by
      have : worn p s (((v, a.toNat).2 : Nat) : Int) (v, a.toNat).1.rest = worn p s a v.rest := by rw [show (((v, a.toNat).2 : Nat) : Int) = a from e]
      rw [← this]; exact h1
    rw [← hl, worn_iff h2.1 h2.2] at h3
    cases q : restsBetween (p.obj a).rest (itemW p s a) with
    | false => rw [q] at h3; exact absurd rfl h3
    | true => exact q
/-! other limits -/
def limP (p : Plan) (ls : List Int) : Plan := ⟨ls, p.objects, p.wishes⟩
theorem limP_ok {p : Plan} (hp : p.Ok) {ls : List Int} (hl : ls.length = p.houses.length) (hb : ∀ x ∈ ls, 0 ≤ x ∧ x ≤ 40) : (limP p ls).Ok := (two_lim hp hl hb).okq
theorem limP_some {p : Plan} {s : List Int} (hs : SomeOk p s) (ls : List Int) : SomeOk (limP p ls) s := ⟨hs.lo, hs.hi, hs.as⟩
def limL (p : Plan) (s : List Int) : List Int := (rangeD 0 p.houses.length).map fun h => leastLimit p s h
def capL (p : Plan) (s : List Int) : List Int := (rangeD 0 p.houses.length).map fun h => if (40 : Int) < leastLimit p s h then 40 else leastLimit p s h
theorem limL_len (p : Plan) (s : List Int) : (limL p s).length = p.houses.length := by unfold limL; rw [List.length_map, rangeD_len]
theorem limL_at {p : Plan} {s : List Int} {h : Nat} (hh : h < p.houses.length) : (limL p s)[h]? = some (leastLimit p s h) := by
  unfold limL
  rw [List.getElem?_map]
  have : (rangeD 0 p.houses.length)[h]? = some (h : Int) := by
    unfold rangeD
    rw [List.getElem?_map, List.getElem?_range hh]; simp
  rw [this]; rfl
theorem cap_bound {p : Plan} {s : List Int} (hp : p.Ok) (hs : SomeOk p s) (h : capL p s = limL p s) : ∀ x ∈ limL p s, 0 ≤ x ∧ x ≤ 40 := by
  intro x hx
  rw [← h] at hx
  obtain ⟨k, _, rfl⟩ := List.mem_map.mp hx
  have := limit_nonneg hp hs k
  split <;> omega
theorem lim_none {p : Plan} {s : List Int} : (reasonsOf (limP p (limL p s)) s).any isValue = false := by
  rw [any_value, Bool.not_eq_false', crowded_nil]
  intro h k h0 h1 k0 k1
  have hl : h.toNat < p.houses.length := by
    have : h < ((limL p s).length : Nat) := h1
    rw [limL_len] at this; omega
  have e : (limP p (limL p s)).lim h = leastLimit p s h := by
    unfold Plan.lim
    show (limL p s).getD h.toNat 0 = _
    rw [List.getD, limL_at hl, Option.getD_some]
    congr 1; omega
  rw [e]
  exact limit_ge p s h k0 k1
def putAt {α : Type} (l : List α) (i : Nat) (v : α) : List α := l.take i ++ [v] ++ l.drop (i + 1)
theorem putAt_len {α : Type} {l : List α} {i : Nat} (hi : i < l.length) (v : α) : (putAt l i v).length = l.length := by
  unfold putAt
  rw [List.length_append, List.length_append, List.length_take, List.length_drop, List.length_singleton]
  omega
theorem putAt_at {α : Type} {l : List α} {i : Nat} (hi : i < l.length) (v : α) : (putAt l i v)[i]? = some v := by
  unfold putAt
  have hti : (l.take i).length = i := by rw [List.length_take]; omega
  rw [List.append_assoc, List.getElem?_append_right (by omega), hti, Nat.sub_self]
  rfl
def isValAt (h : Int) : Reason → Bool
  | .value a _ => decide (a = h)
  | _ => false
theorem eqv_valAt (r : Reason) (h : Int) : PyData.eqv (.tuple ((eRl r).take 2)) (.tuple [.str "value", .int h]) = isValAt h r := by
  cases r <;> simp only [eRl, List.take, isValAt, PyData.eqv, PyData.eqvAll, sne1, sne2, sne3, sne4, sne5, sne6, beq_self_eq_true, Bool.false_and, Bool.true_and, Bool.and_true] <;> first | rfl | (rw [Bool.eq_iff_iff]; simp)
theorem limP_named (p : Plan) (ls s : List Int) : named (limP p ls) s = named p s := rfl
theorem limP_value (p : Plan) (ls : List Int) (ws : List Wish) (h k : Int) : valueAt (limP p ls) ws h k = valueAt p ws h k := rfl
theorem less_some {p : Plan} {s : List Int} {h : Nat} (hh : h < p.houses.length) : ((reasonsOf (limP p (putAt (limL p s) h (leastLimit p s h - 1))) s).filter (isValAt h)) ≠ [] := by
  have hl : h < (limL p s).length := by rw [limL_len]; exact hh
  obtain ⟨k, k0, k1, e⟩ := limit_at p s h
  have hm : Reason.value h k ∈ reasonsOf (limP p (putAt (limL p s) h (leastLimit p s h - 1))) s := by
    unfold reasonsOf
    refine List.mem_append_right _ (List.mem_map.mpr ⟨((h : Int), k), ?_, rfl⟩)
    unfold crowded
    rw [List.mem_flatMap]
    refine ⟨(leastLimit p s h - 1, h), ?_, ?_⟩
    · rw [List.mem_zipIdx_iff_getElem?]
      exact putAt_at hl _
    · rw [List.mem_map]
      refine ⟨k, ?_, rfl⟩
      unfold crowdRow
      rw [List.mem_filter, rangeD_mem, decide_eq_true_iff, limP_named, limP_value, e]
      exact ⟨by omega, Int.sub_lt_self _ (by decide)⟩
  intro z
  have : Reason.value h k ∈ (reasonsOf (limP p (putAt (limL p s) h (leastLimit p s h - 1))) s).filter (isValAt h) := List.mem_filter.mpr ⟨hm, decide_eq_true rfl⟩
  rw [z] at this; cases this
/-! new loans -/
structure LoanOk (p : Plan) (h i weeks : Int) : Prop where
  h0 : 0 ≤ h
  h1 : h < p.houses.length
  ob : InObj p i
  ne : (p.obj i).home ≠ h
  w0 : 1 ≤ weeks
  w1 : weeks ≤ 40
theorem new_gw {p : Plan} {s : List Int} (hp : p.Ok) (hs : SomeOk p s) {h i weeks k : Int} (hl : LoanOk p h i weeks) (k0 : 0 ≤ k) (k1 : k + weeks ≤ 61) : GoodWs p (named p s ++ [newW h i weeks k]) := by
  have g := hs.gw hp
  have w0 := hl.w0
  refine ⟨fun w hw => ?_, fun w hw => ?_⟩
  · rcases List.mem_append.mp hw with q | q
    · exact g.it w q
    · rw [List.mem_singleton.mp q]; exact hl.ob
  · rcases List.mem_append.mp hw with q | q
    · exact g.wk w q
    · rw [List.mem_singleton.mp q]
      exact ⟨k0, by show k ≤ k + weeks - 1; omega, by show k + weeks - 1 ≤ 60; omega⟩
def moreP (p : Plan) (w : Wish) : Plan := ⟨p.houses, p.objects, p.wishes ++ [w]⟩
theorem newW_ok {p : Plan} {h i weeks k : Int} (hl : LoanOk p h i weeks) (k0 : 0 ≤ k) (k1 : k + weeks ≤ 61) : (newW h i weeks k).Ok p := by
  have w0 := hl.w0
  exact ⟨hl.h0, hl.h1, hl.ob.1, hl.ob.2, hl.ne, k0, by show k ≤ k + weeks - 1; omega, by show k + weeks - 1 ≤ 60; omega⟩
theorem moreP_some {p : Plan} {s : List Int} (hs : SomeOk p s) (w : Wish) : SomeOk (moreP p w) (s ++ [(p.wishes.length : Int)]) := by
  have hl : (moreP p w).wishes.length = p.wishes.length + 1 := by show (p.wishes ++ [w]).length = _; rw [List.length_append, List.length_singleton]
  refine ⟨fun x hx => ?_, fun x hx => ?_, ?_⟩
  · rcases List.mem_append.mp hx with q | q
    · exact hs.lo x q
    · rw [List.mem_singleton.mp q]; omega
  · rw [hl]
    rcases List.mem_append.mp hx with q | q
    · have := hs.hi x q; omega
    · rw [List.mem_singleton.mp q]; omega
  · rw [asc_iff, List.pairwise_append]
    refine ⟨(asc_iff s).mp hs.as, by simp, fun a ha b hb => ?_⟩
    rw [List.mem_singleton.mp hb]
    exact hs.hi a ha
theorem moreP_named {p : Plan} {s : List Int} (hs : SomeOk p s) (w : Wish) : named (moreP p w) (s ++ [(p.wishes.length : Int)]) = named p s ++ [w] := by
  unfold named
  rw [List.map_append]
  congr 1
  · refine List.map_congr_left fun x hx => ?_
    have h0 := hs.lo x hx
    have h1 := hs.hi x hx
    unfold Plan.wish moreP
    simp only [List.getD]
    rw [List.getElem?_append_left (by omega)]
  · show [(moreP p w).wish _] = [w]
    congr 1
    unfold Plan.wish moreP
    rw [Int.toNat_natCast]
    simp only [List.getD]
    rw [List.getElem?_append_right (Nat.le_refl _), Nat.sub_self]
    rfl
theorem moreP_good {p : Plan} {s : List Int} (hs : SomeOk p s) (h i weeks k : Int) : areGood (moreP p (newW h i weeks k)) (named (moreP p (newW h i weeks k)) (s ++ [(p.wishes.length : Int)])) = fitsAt p s h i weeks k := by
  rw [moreP_named hs]
  exact areGood_cong (p := p) (q := moreP p (newW h i weeks k)) rfl rfl _
theorem weeksOf_snoc (ws : List Wish) (w : Wish) (j : Int) : weeksOf (ws ++ [w]) j = weeksOf ws j + if w.item = j then w.last - w.first + 1 else 0 := by
  unfold weeksOf
  rw [List.filter_append, List.map_append, List.sum_append]
  congr 1
  by_cases c : w.item = j
  · rw [if_pos c, List.filter_cons_of_pos (by simpa using c)]; simp
  · rw [if_neg c, List.filter_cons_of_neg (by simpa using c)]; simp
theorem valueAt_snoc (p : Plan) (ws : List Wish) (w : Wish) (h k : Int) : valueAt p (ws ++ [w]) h k = valueAt p ws h k + if w.house = h ∧ w.first ≤ k ∧ k ≤ w.last then (p.obj w.item).value else 0 := by
  unfold valueAt thereIn
  rw [List.filter_append, List.map_append, List.sum_append]
  congr 1
  by_cases c : w.house = h ∧ w.first ≤ k ∧ k ≤ w.last
  · rw [if_pos c, List.filter_cons_of_pos (by simpa using c)]; simp
  · rw [if_neg c, List.filter_cons_of_neg (by simpa using c)]; simp
/-- a shorter loan is possible as early -/
theorem fits_short {p : Plan} {s : List Int} (hp : p.Ok) (hs : SomeOk p s) {h i weeks v k : Int} (hl : LoanOk p h i weeks) (hv : LoanOk p h i v) (vw : v ≤ weeks) (k0 : 0 ≤ k) (k1 : k + weeks ≤ 61) (g : fitsAt p s h i weeks k = true) : fitsAt p s h i v k = true := by
  have f := (areGood_iff hp (new_gw hp hs hl k0 k1)).mp g
  refine (areGood_iff hp (new_gw hp hs hv k0 (by omega))).mpr ⟨?_, fun j j0 j1 => ?_, fun a b a0 a1 b0 b1 => ?_⟩
  · have h1 := f.rest
    rw [List.pairwise_append] at h1 ⊢
    refine ⟨h1.1, by simp, fun a ha b hb => ?_⟩
    have h2 := h1.2.2 a ha (newW h i weeks k) List.mem_cons_self
    rw [List.mem_singleton.mp hb]
    unfold tiredB at h2 ⊢
    by_cases c : a.item = i
    · simp only [newW, c, decide_true, Bool.true_and, Bool.not_eq_false', doRest, Bool.or_eq_true, decide_eq_true_eq] at h2 ⊢
      omega
    · have : ∀ u : Int, decide (a.item = (newW h i u k).item) = false := fun u => decide_eq_false c
      rw [this]; rfl
  · have h1 := f.light j j0 j1
    rw [weeksOf_snoc] at h1 ⊢
    by_cases c : i = j
    · rw [if_pos (show (newW h i weeks k).item = j from c)] at h1
      rw [if_pos (show (newW h i v k).item = j from c)]
      have e1 : (newW h i weeks k).last - (newW h i weeks k).first + 1 = k + weeks - 1 - k + 1 := rfl
      have e2 : (newW h i v k).last - (newW h i v k).first + 1 = k + v - 1 - k + 1 := rfl
      omega
    · rw [if_neg (show ¬ (newW h i weeks k).item = j from c)] at h1
      rw [if_neg (show ¬ (newW h i v k).item = j from c)]
      exact h1
  · have h1 := f.value a b a0 a1 b0 b1
    rw [valueAt_snoc] at h1 ⊢
    have vn := (hp.os _ (p.obj_mem hl.ob.1 hl.ob.2)).v0
    have e1 : (p.obj (newW h i weeks k).item).value = (p.obj i).value := rfl
    have e2 : (p.obj (newW h i v k).item).value = (p.obj i).value := rfl
    by_cases c : h = a ∧ k ≤ b ∧ b ≤ k + v - 1
    · have d : h = a ∧ k ≤ b ∧ b ≤ k + weeks - 1 := by omega
      rw [if_pos (show (newW h i weeks k).house = a ∧ (newW h i weeks k).first ≤ b ∧ b ≤ (newW h i weeks k).last from d)] at h1
      rw [if_pos (show (newW h i v k).house = a ∧ (newW h i v k).first ≤ b ∧ b ≤ (newW h i v k).last from c)]
      omega
    · rw [if_neg (show ¬ ((newW h i v k).house = a ∧ (newW h i v k).first ≤ b ∧ b ≤ (newW h i v k).last) from c)]
      by_cases d : h = a ∧ k ≤ b ∧ b ≤ k + weeks - 1
      · rw [if_pos (show (newW h i weeks k).house = a ∧ (newW h i weeks k).first ≤ b ∧ b ≤ (newW h i weeks k).last from d)] at h1; omega
      · rw [if_neg (show ¬ ((newW h i weeks k).house = a ∧ (newW h i weeks k).first ≤ b ∧ b ≤ (newW h i weeks k).last) from d)] at h1; exact h1
/-! what is found first in a range -/
theorem find_range {q : Int → Bool} {lo : Int} {n : Nat} {x : Int} (h : (rangeD lo n).find? q = some x) : (lo ≤ x ∧ x < lo + n) ∧ q x = true ∧ ∀ y, lo ≤ y → y < x → q y = false := by
  have h1 := rangeD_mem.mp (List.mem_of_find?_eq_some h)
  refine ⟨h1, List.find?_some h, fun y y0 y1 => ?_⟩
  obtain ⟨_, as, bs, e, hn⟩ := List.find?_eq_some_iff_append.mp h
  have hy : y ∈ rangeD lo n := rangeD_mem.mpr (by omega)
  have hp := asc_range lo n
  rw [e] at hy hp
  rw [List.pairwise_append, List.pairwise_cons] at hp
  rcases List.mem_append.mp hy with q1 | q1
  · simpa using hn y q1
  · rcases List.mem_cons.mp q1 with q2 | q2
    · omega
    · have := hp.2.1.1 y q2; omega
theorem find_none {q : Int → Bool} {lo : Int} {n : Nat} (h : (rangeD lo n).find? q = none) : ∀ y, lo ≤ y → y < lo + n → q y = false := fun y y0 y1 => by
  have := List.find?_eq_none.mp h y (rangeD_mem.mpr ⟨y0, y1⟩)
  simpa using this
theorem find_is {q : Int → Bool} {lo : Int} {n : Nat} {x : Int} (h0 : lo ≤ x) (h1 : x < lo + n) (hq : q x = true) (hn : ∀ y, lo ≤ y → y < x → q y = false) : (rangeD lo n).find? q = some x := by
  cases h : (rangeD lo n).find? q with
  | none => have := find_none h x h0 h1; rw [hq] at this; cases this
  | some y =>
    obtain ⟨a, b, c⟩ := find_range h
    congr 1
    rcases Int.lt_trichotomy x y with e | e | e
    · have := c x h0 e; rw [hq] at this; cases this
    · exact e.symm
    · have := hn y a.1 e; rw [b] at this; cases this
/-! contracts: limits.py -/
def c_first_week : Ct := ⟨Plan × List Int × Int × Int × Int × Int, fun a => [eP a.1, eT a.2.1, .int a.2.2.1, .int a.2.2.2.1, .int a.2.2.2.2.1, .int a.2.2.2.2.2],
  fun a => a.1.Ok ∧ SomeOk a.1 a.2.1 ∧ LoanOk a.1 a.2.2.1 a.2.2.2.1 a.2.2.2.2.1 ∧ (0 ≤ a.2.2.2.2.2 ∧ a.2.2.2.2.2 ≤ 60) ∧ good a.1 a.2.1 = true, fun a => Eq (eOpt PyData.int (firstWeek a.1 a.2.1 a.2.2.1 a.2.2.2.1 a.2.2.2.2.1 a.2.2.2.2.2))⟩
def c_least_limit : Ct := ⟨Plan × List Int × Int, fun a => [eP a.1, eT a.2.1, .int a.2.2], fun a => a.1.Ok ∧ SomeOk a.1 a.2.1 ∧ 0 ≤ a.2.2 ∧ a.2.2 < a.1.houses.length, fun a => Eq (.int (leastLimit a.1 a.2.1 a.2.2))⟩
def c_least_light : Ct := ⟨Plan × List Int × Int, fun a => [eP a.1, eT a.2.1, .int a.2.2], fun a => a.1.Ok ∧ SomeOk a.1 a.2.1 ∧ InObj a.1 a.2.2, fun a => Eq (.int (leastLight a.1 a.2.1 a.2.2))⟩
def c_rests_between : Ct := ⟨List Wish × Int, fun a => [eLW a.1, .int a.2], fun a => a.1.length ≤ 100, fun a => Eq (.bool (restsBetween a.2 a.1))⟩
def c_most_rest : Ct := ⟨Plan × List Int × Int, fun a => [eP a.1, eT a.2.1, .int a.2.2], fun a => a.1.Ok ∧ SomeOk a.1 a.2.1 ∧ InObj a.1 a.2.2, fun a => Eq (eOpt PyData.int (mostRest a.1 a.2.1 a.2.2))⟩
def c_law_longer : Ct := ⟨Plan × List Int × Int × Int × Int × Int, fun a => [eP a.1, eT a.2.1, eW (newW a.2.2.1 a.2.2.2.1 a.2.2.2.2.1 a.2.2.2.2.2)],
  fun a => a.1.Ok ∧ a.1.wishes.length ≤ 7 ∧ SomeOk a.1 a.2.1 ∧ LoanOk a.1 a.2.2.1 a.2.2.2.1 a.2.2.2.2.1 ∧ 0 ≤ a.2.2.2.2.2 ∧ a.2.2.2.2.2 + a.2.2.2.2.1 ≤ 61, fun a => Eq (.bool (fitsAt a.1 a.2.1 a.2.2.1 a.2.2.2.1 a.2.2.2.2.1 a.2.2.2.2.2))⟩
def c_law_early : Ct := ⟨Plan × List Int × Int × Int × Int × Int, fun a => [eP a.1, eT a.2.1, .int a.2.2.1, .int a.2.2.2.1, .int a.2.2.2.2.1, .int a.2.2.2.2.2],
  fun a => a.1.Ok ∧ a.1.wishes.length ≤ 7 ∧ SomeOk a.1 a.2.1 ∧ LoanOk a.1 a.2.2.1 a.2.2.2.1 a.2.2.2.2.1 ∧ (0 ≤ a.2.2.2.2.2 ∧ a.2.2.2.2.2 ≤ 60) ∧ good a.1 a.2.1 = true, fun _ => Eq (.bool true)⟩
def c_law_kept : Ct := ⟨Plan × List Int, fun a => [eP a.1, eT a.2], fun a => a.1.Ok ∧ SomeOk a.1 a.2, fun _ => Eq (.bool true)⟩
theorem en_optI : En (eOpt PyData.int) 1 := by
  refine ⟨fun o => ?_, fun a b => ?_⟩
  · cases o with
    | none => exact shp_none.mono (by decide)
    | some i => exact (shp_int i).mono (by decide)
  · cases a <;> cases b <;> first | rfl | (simp only [eOpt]; rw [eqI, Bool.eq_iff_iff]; simp)
end Mus

namespace Mus
open PySem PySem.Spec PyProof.Rows L2 PL
/-! ## a plan with a wish more (k29) -/
section
variable {p : Plan} {w : Wish}
theorem moreP_ok (hp : p.Ok) (h7 : p.wishes.length ≤ 7) (hw : w.Ok p) : (moreP p w).Ok := more_ok hp h7 hw
theorem moreP_wo (hp : p.Ok) (h7 : p.wishes.length ≤ 7) (hw : w.Ok p) : Wo p (moreP p w) p.wishes.length := more_wo hp h7 hw
theorem moreP_len : (moreP p w).wishes.length = p.wishes.length + 1 := by show (p.wishes ++ [w]).length = _; rw [List.length_append, List.length_singleton]
theorem skip_id {n : Nat} {s : List Int} (h : ∀ x ∈ s, x < (n : Int)) : s.map (skip n) = s := by
  have : s.map (skip n) = s.map id := List.map_congr_left fun x hx => by
    show skip n x = x
    unfold skip
    rw [if_pos (h x hx)]
  rw [this, List.map_id]
theorem good_more (hp : p.Ok) (h7 : p.wishes.length ≤ 7) (hw : w.Ok p) {s : List Int} (hs : SomeOk p s) : good (moreP p w) s = good p s := by
  have h := (moreP_wo hp h7 hw).good hs
  rw [skip_id hs.hi] at h
  exact h.symm
theorem clash_more (hp : p.Ok) (h7 : p.wishes.length ≤ 7) (hw : w.Ok p) {s : List Int} (hs : SomeOk p s) : isClash (moreP p w) s = isClash p s := by
  unfold isClash
  rw [good_more hp h7 hw hs]
  congr 1
  rw [Bool.eq_iff_iff, List.all_eq_true, List.all_eq_true]
  constructor
  · intro h i hi
    rw [← good_more hp h7 hw (hs.sub (less_sub s i))]; exact h i hi
  · intro h i hi
    rw [good_more hp h7 hw (hs.sub (less_sub s i))]; exact h i hi
theorem sorted_filter (l : List (List Int)) (q : List Int → Bool) : (sortR l).filter q = sortR (l.filter q) :=
  sorted_uniq ((sortR_sorted l).sublist List.filter_sublist) (sortR_sorted _) (((sortR_perm l).filter q).trans (sortR_perm _).symm)
theorem clashes_more (hp : p.Ok) (h7 : p.wishes.length ≤ 7) (hw : w.Ok p) : (clashesOf (moreP p w)).filter (fun r => decide ((p.wishes.length : Int) ∉ r)) = clashesOf p := by
  unfold clashesOf
  rw [sorted_filter, moreP_len, List.filter_filter]
  congr 1
  show ((subs p.wishes.length ++ (subs p.wishes.length).map fun r => r ++ [(p.wishes.length : Int)]).filter _) = _
  rw [List.filter_append]
  have e1 : ((subs p.wishes.length).map fun r => r ++ [(p.wishes.length : Int)]).filter (fun a => decide ((p.wishes.length : Int) ∉ a) && isClash (moreP p w) a) = [] := by
    rw [List.filter_eq_nil_iff]
    intro r hr
    obtain ⟨u, _, rfl⟩ := List.mem_map.mp hr
    simp
  rw [e1, List.append_nil]
  refine List.filter_congr fun s hs => ?_
  have h := subs_some.mp hs
  rw [clash_more hp h7 hw h]
  have : (p.wishes.length : Int) ∉ s := fun z => by have := h.hi _ z; omega
  rw [decide_eq_true this, Bool.true_and]
theorem loans_more (hp : p.Ok) (h7 : p.wishes.length ≤ 7) (hw : w.Ok p) {i : Int} (hi : InObj p i) : loansOf p i ≤ loansOf (moreP p w) i ∧ loansOf (moreP p w) i ≤ loansOf p i + 1 := by
  have ok := moreP_ok hp h7 hw
  constructor
  · refine loans_hold ok hp hi hi fun s hs => ?_
    obtain ⟨v, hv, e1, e2⟩ := mem_spans.mp hs
    exact ⟨s, mem_spans.mpr ⟨v, List.mem_append_left _ hv, e1, e2⟩, Int.le_refl _, Int.le_refl _⟩
  · refine loans_one hp ok hi hi (w.first, w.last + (p.obj i).rest) (by have := hw.fl; have := (hp.rest0 hi).1; show w.first ≤ w.last + _; omega) fun s hs => ?_
    obtain ⟨v, hv, e1, e2⟩ := mem_spans.mp hs
    rcases List.mem_append.mp hv with q | q
    · right; exact mem_spans.mpr ⟨v, q, e1, e2⟩
    · left; rw [e2, List.mem_singleton.mp q]; rfl
theorem loans_other {i : Int} (h : w.item ≠ i) : loansOf (moreP p w) i = loansOf p i := by
  unfold loansOf spansOf endsOf moreP
  rw [List.filter_append, List.filter_cons_of_neg (by simpa using h)]
  simp [Plan.obj]
end
def c_law_grown : Ct := ⟨Plan × Wish, fun a => [eP a.1, eW a.2], fun a => a.1.Ok ∧ a.1.wishes.length ≤ 7 ∧ a.2.Ok a.1, fun _ => Eq (.bool true)⟩
/-- in the first free weeks there is place beside the best -/
theorem free_sure {p : Plan} {w : Wish} (hp : p.Ok) (h7 : p.wishes.length ≤ 7) (hw : w.Ok p) (hg : areGood p (named p (best p) ++ [w]) = true) : mostGranted (moreP p w) = mostGranted p + 1 ∧ isSure (moreP p w) p.wishes.length = true ∧ SomeOk (moreP p w) (best p ++ [(p.wishes.length : Int)]) ∧ good (moreP p w) (best p ++ [(p.wishes.length : Int)]) = true := by
  have ok := moreP_ok hp h7 hw
  have wo := moreP_wo hp h7 hw
  have hb := mem_largest.mp (best_mem hp)
  have hs := moreP_some hb.1.1 w
  have g : good (moreP p w) (best p ++ [(p.wishes.length : Int)]) = true := by
    rw [← good_eq ok hs, moreP_named hb.1.1]
    exact (areGood_cong (p := p) (q := moreP p w) rfl rfl _).trans hg
  have h1 := le_most hs g
  rw [List.length_append, List.length_singleton, hb.2] at h1
  have h2 := wo.most_ge
  have h3 : mostGranted (moreP p w) = mostGranted p + 1 := by omega
  exact ⟨h3, wo.sure.mpr h3.symm, hs, g⟩
end Mus

namespace PL
open PySem PySem.Spec PyProof.Rows L2
section
variable {X : Cx} {ρ : List SD} {a b : Expr} {p p2 q pos : Pos}
theorem rpA_rep {H : Hp} {xs : List V} {ds : List PyData} (r : RpA H xs ds) : ∀ k : Nat, RpA H (List.replicate k xs).flatten (List.replicate k ds).flatten
  | 0 => .nil
  | k + 1 => by
    rw [List.replicate_succ, List.replicate_succ, List.flatten_cons, List.flatten_cons]
    exact r.append (rpA_rep r k)
/-- a tuple, so many times -/
theorem ev_repT {ds : List PyData} {k : Nat} (ha : Ev X ρ a (.tuple ds)) (hb : Ev X ρ b (.int k)) (hn : ds ≠ []) (h2 : 2 ≤ k) (hk : k ≤ 1000) (hl : ds.length ≤ 1000) (hz : (List.replicate k ds).flatten.length ≤ big) : Ev X ρ (.BinOp a .Mult b pos) (.tuple (List.replicate k ds).flatten) :=
  ev_bin op_repT ha hb fun O H x y Q al r1 r2 kt => by
    cases r1 with
    | tup g1 g2 g3 =>
      cases r2
      refine ⟨_, k, _, rfl, rfl, SqT.of (msk_some g1).2, fun z => ?_, by omega, by omega, by rw [g3.len]; exact hl, ?_⟩
      · rw [z] at g3; cases g3; exact hn rfl
      · rw [Int.toNat_natCast]
        exact kt.tup al rfl hz (rpA_rep g3 k)
/-- tuple(range(lo, hi)) -/
theorem ev_tupR2 {lo hi : Int} (hc : X.calm = true) (hg : Gl X "tuple") (hm : X.mg "tuple" = none) (hg2 : Gl X "range") (hm2 : X.mg "range" = none) (ha : Ev X ρ a (.int lo)) (hb : Ev X ρ b (.int hi)) (h1 : 0 ≤ lo ∧ lo ≤ 4096 ∧ 0 ≤ hi ∧ hi ≤ 4096) (h2 : hi - lo ≤ 4096)
    (n1 : starEach [a, b] X.env = (false, eval a X.env) :: starEach [b] X.env := by rfl) (n1' : starEach [b] X.env = (false, eval b X.env) :: starEach [] X.env := by rfl) (n2 : starEach [.Call (.Name "range" p) [a, b] [] q] X.env = (false, eval (.Call (.Name "range" p) [a, b] [] q) X.env) :: starEach [] X.env := by rfl) (hp : (backTo q (starEach [b] X.env)).any (·.1) = false := by rfl) :
    Ev X ρ (.Call (.Name "tuple" p2) [.Call (.Name "range" p) [a, b] [] q] [] pos) (.tuple ((rangeD lo (hi - lo).toNat).map PyData.int)) :=
  pe_imp (pe_tupRg hc hg hm (prg_2 hg2 hm2 ha hb n1 n1' hp) n2) fun σ H Q ⟨F, O0, O1, s, k⟩ => ⟨F, O0, O1, s, fun v d H1 s1 e1 hd r => ⟨F, O0, O1, s1, fun w d' H2 s2 e2 hd' r' => by
    subst hd; subst hd'
    cases r; cases r'
    refine ⟨lo, hi, rfl, rfl, RgOk.of_le (by omega) (by omega) (by omega) (by omega), ?_⟩
    rw [rgV_eq]
    exact (s2.kt (e1.trans e2) k).tup s2.al rfl (by rw [List.length_map, rangeD_len]; show _ ≤ 4096; omega) (rpA_ints _)⟩⟩
/-- a call without arguments -/
theorem ev_call0 {x : Str} {k n : Nat} {ps : List Str} {C : Ct} {d : PyData} (F : Def X.prog X.w X.K X.mg X.base k x ps C) (a : C.A) (hr : Room n X.A) (hg : Gl X x) (hp : C.pre a) (he : C.enc a = [] := by rfl) (hG : C.res a = Eq d := by rfl) (hkn : k ≤ n := by decide)
    (hdb : (x == ("__debug__" : Str)) = false := by decide) : Ev X ρ (.Call (.Name x p) [] [] pos) d := by
  obtain ⟨f, fd, F1, F2, F3, F4⟩ := F
  refine pe_imp (pe_call0 F1 (hr.mono hkn) hg F2 F3 F4.bd .nil pass0 hdb) fun σ H Q ⟨F, O0, O1, s, q⟩ => ?_
  show spG C ([] ++ []) H Q E0
  exact ⟨O1 ++ O0, a, hp, s.al, by rw [he]; exact .nil, fun v d' H' e' hd r => s.kt (Ex.refl _) q v d' H' e' (by rw [hG] at hd; exact hd) r⟩
end
end PL

namespace L2
open PySem PySem.Spec PyProof.Rows
/-! ## an exception that is caught and kept -/
/-- an exception of the class cls, without a dict, stands at a -/
def ExcZ (cls : Value) (a : Addr) : Heap → Prop := fun h => ∃ oe vs, h.get? a = some oe ∧ Zc cls none oe ∧ oe.data = .fields vs
theorem excZ_ok {P : Program} {w : World} {H : Hp} {h : Heap} {a : Addr} {cls : Value} (x : ExcZ cls a h) : ObjOk P w H h a (.ext (ExcZ cls a)) := by
  obtain ⟨oe, vs, e, z, d⟩ := x
  exact ⟨⟨oe, vs, e, z, d⟩, ⟨oe, e⟩, fun h1 h2 ⟨o1, v1, e1, z1, d1⟩ k => ⟨o1, v1, k _ e1, z1, d1⟩⟩
section
variable {X : Cx} {pins : List (Addr × Obj)} {σ : St} {H : Hp} {s : Shared}
theorem Inv.track {a : Addr} {oe : Obj} {φ : Heap → Prop} (I : Inv X pins σ H s) (ha : s.heap.get? a = some oe) (na : H a = none) (n0 : X.s_0.heap.get? a = none) (nL : a ≠ X.env.locals) (nC : ∀ x c, X.env.cells.lookup x = some c → c ≠ a)
    (nP : ∀ p ∈ X.pn ++ pins, p.1 ≠ a) (new : ObjOk X.prog X.w (upd H a (.ext φ)) s.heap a (.ext φ)) : Inv X pins σ (upd H a (.ext φ)) s := by
  have sm : ∀ {b u}, H b = some u → b ≠ a := fun e => ne_of_none e na
  refine ⟨I.ok, I.os, I.bare, ⟨I.base.keep, I.base.slot, fun b o e n hx => ?_, I.base.there, fun b xs e => ?_, fun b o u e => ?_, fun b ps e => ?_⟩, I.loc, I.cell, ?_, fun y c e => ?_, fun p hp => ?_, fun b u e => ?_, I.len⟩
  · rw [upd_ne (fun z => by rw [z, n0] at e; cases e)]
    exact I.base.free b o e n hx
  · have q := I.base.tups b xs e
    rw [upd_ne (sm q)]; exact q
  · have q := I.base.frzs b o u e
    rw [upd_ne (sm q)]; exact q
  · obtain ⟨more, q⟩ := I.base.tbls b ps e
    exact ⟨more, by rw [upd_ne (sm q)]; exact q⟩
  · rw [upd_ne (Ne.symm nL)]; exact I.free
  · rw [upd_ne (nC y c e)]; exact I.freeC y c e
  · obtain ⟨e, n, ne, nf, d⟩ := I.pin p hp
    exact ⟨e, by rw [upd_ne (nP p hp)]; exact n, ne, nf, d⟩
  · by_cases hb : b = a
    · subst hb; rw [upd_same] at e; cases e; exact new
    · rw [upd_ne hb] at e
      exact (I.hok b u e).stay (fun c v _ q => q) (fun c q => by rw [upd_ne (sm q)]; exact q) fun c xs q => by rw [upd_ne (sm q)]; exact q
/-- a name that nobody sees may be said to hold anything -/
theorem Inv.unseen {i : Nat} {n : Str} {x : Option V} (I : Inv X pins σ H s) (hN : X.N.Nodup) (hi : X.N[i]? = some n) (hv : ¬ Vis X.env.scope n) : Inv X pins (σ.set i x) H s := by
  obtain ⟨m, hn, hl⟩ := I.loc
  refine ⟨I.ok, I.os, I.bare, I.base, ⟨m, hn, fun j y v e1 e2 e3 => ?_⟩, I.cell, I.free, I.freeC, I.pin, I.hok, by simpa using I.len⟩
  by_cases hj : j = i
  · subst hj
    rw [hi] at e1
    cases e1
    exact absurd e3 hv
  · rw [List.getElem?_set_ne (Ne.symm hj)] at e2
    exact hl j y v e1 e2 e3
end
/-- what 'except c as n: r = n' wishes of an exception of the body -/
def wKeep (K : PySem.W.Frag) (c : Value) (i j n : Nat) (D : Ends) : WX := fun cls d σ H =>
  d = none ∧ PySem.W.exmOne K cls c = some true ∧ ∀ a, H a = none → σ.length = n → D.nx (((σ.set i (some (.ref a))).set j (some (.ref a))).set i none) (upd H a (.ext (ExcZ cls a)))
section
variable {X : Cx} {x n r : Str} {c : Value} {i j : Nat} {body : List Stmt} {np p1 p2 p3 pos pos' : Pos} {tb : WX → TS}
theorem ps_try_keep (hs : X.stack = X.env :: X.outer) (hf : X.env.frame = some X.env.locals) (hex : X.ex = []) (hN : X.N.Nodup) (hi : X.N[i]? = some n) (hln : X.env.kindOf n = some .local) (hj : X.N[j]? = some r) (hlr : X.env.kindOf r = some .local) (hc : Names X x c)
    (hsw : swapsWith (.Name n p2) (some (.Name r p1)) p3.line X.env = pure false)
    (hb : ∀ (W : WX) (pn : List (Addr × Obj)) (xe : Value → Shared → Prop), Takes (X.tr pn xe) W → PSs (X.tr pn xe) body (tb W)) (h1 : (n == ("__debug__" : Str)) = false := by decide) (h2 : (n == ("__classdict__" : Str)) = false := by decide) :
    PS X (.Try body [.ExceptHandler (some (.Name x np)) (some n) [.Assign [.Name r p1] (.Name n p2) p3] pos'] [] [] pos) (fun D σ H => tb (wKeep X.K c i j X.N.length D) D σ H) := by
  refine ⟨fun pins s σ H D I h => ?_⟩
  have ok := I.ok
  have hfr : X.A.frames = some (X.env :: X.outer) := by rw [ok.frames, hs]
  have hloc : Loc X.env.scope n := .inl hln
  refine wpAny_Try_except ?_
  refine wpAny_mono ((hb (wKeep X.K c i j X.N.length D) (X.pn ++ pins) (fun e s₁ => wpAny (model X.prog X.w) X.A (noteFrame e X.env) (fun _ s₂ => wpAny (model X.prog X.w) X.A (setFlight e none) (fun _ s₃ =>
    wpAny (model X.prog X.w) X.A (handleBy e X.env [.ExceptHandler (some (.Name x np)) (some n) [.Assign [.Name r p1] (.Name n p2) p3] pos']) (SP X pins D) X.xe s₃) X.xe s₂) X.xe s₁) (fun u s' xx => ?_)).run [] s σ H D (I.toTry _) h) (fun f s1 hsp => ?_) (fun e s1 he => he)
  · obtain ⟨a, B, sI, pins', σ', H', cls, d, rfl, J', nb, up, sky, na, os, ag, hd0, hb1, hyes⟩ := xx
    subst hd0
    have J : Inv X pins σ' H' sI := J'.ofTry ok
    have sky' : Sky B (X.env :: X.outer) a (Zc cls none) X.env.locals s'.heap := by rw [← hs]; exact sky
    show wpAny (model X.prog X.w) X.A (noteFrame (.ref a) X.env) _ _ _
    refine Sky.land Zc.steady hfr hf sky' fun h3 fl3 up3 => ?_
    have J3 : Inv X pins σ' H' { s' with heap := h3 } := J.landed nb fl3.1 (up.trans up3) os ag
    obtain ⟨oe3, vs3, he3, hz3, hd3⟩ := fl3.there
    have notFr : ∀ {h : Heap} {o : Obj} {vs : Array Value}, h.FunFrames B (X.env :: X.outer) → h.get? a = some o → o.data = .fields vs → a ∉ frs (X.env :: X.outer) := fun {h o vs} ff e dd hm => by
      obtain ⟨_, o', e', hnf⟩ := ff.mem hm
      rw [e] at e'; cases e'
      exact hnf _ dd
    have nfr := notFr fl3.2.2.1 he3 hd3
    have nL : a ≠ X.env.locals := fun z => nfr (List.mem_filterMap.mpr ⟨X.env, List.mem_cons_self, by rw [hf, z]⟩)
    have nF : a ∉ X.fs := fun hm => by
      obtain ⟨e, he, q⟩ := List.mem_filterMap.mp hm
      exact nfr (List.mem_filterMap.mpr ⟨e, List.mem_cons_of_mem _ he, q⟩)
    -- the exception is new: it was not there before
    have nI : sI.heap.get? a = none := by
      cases q : sI.heap.get? a with
      | none => rfl
      | some o =>
        have z := nb a o q (by rw [hs]; exact nfr)
        rw [fl3.2.1] at z
        cases z
    have n0 : X.s_0.heap.get? a = none := by
      cases q : X.s_0.heap.get? a with
      | none => rfl
      | some o =>
        obtain ⟨o', z⟩ := J.base.there a o q (by rw [hex]; simp)
        rw [nI] at z
        cases z
    have nC : ∀ y c, X.env.cells.lookup y = some c → c ≠ a := fun y c e z => by
      obtain ⟨v, o, ho, _⟩ := J.cell y c e
      rw [z, nI] at ho
      cases ho
    have nP : ∀ p ∈ X.pn ++ pins, p.1 ≠ a := fun p hp z => by
      have e := (J.pin p hp).1
      rw [z, nI] at e
      cases e
    have S3 := J3.suite he3 hd3 na nL nF
    refine wpAny_handleBy_cons (codeAny_handlers_test ?_) (by intro q; cases q)
    have LT : PySem.W.Looks (model X.prog X.w) h3 (typeOf (.ref a)) cls := fun A Q E s k q => wpAny_typeOf_ref (k _ _ he3) (by rw [hz3.1]; exact q)
    have LM := PySem.W.exm_one (M := model X.prog X.w) (J3.kIn) LT hb1
    have test : ∀ {Q : Value → Shared → Prop} {E : Value → Shared → Prop}, Q c { s' with heap := h3 } → wpAny (model X.prog X.w) (X.A.mark (some (.ref a))) (eval (.Name x np) X.env) Q E { s' with heap := h3 } := fun {Q E} q => by
      obtain ⟨hg, hdbg, hm | ⟨hm, hv, hnn⟩⟩ := hc
      · exact ld_glob (X := X.suite a ((a, oe3) :: (X.pn ++ pins))) S3 hg hm q hdbg
      · exact ld_blt (X := X.suite a ((a, oe3) :: (X.pn ++ pins))) S3 hg hm hv q hnn hdbg
    refine test (LM.here ?_)
    refine codeAny_handlers_suite_as ?_
    refine HandSPX.lands_againZ fl3 fun h4 fl4 up4 => ?_
    have J4 : Inv X pins σ' H' { s' with heap := h4 } := J.landed nb fl4.1 ((up.trans up3).trans up4) os ag
    obtain ⟨oe4, vs4, he4, hz4, hd4⟩ := fl4.there
    have S4 := J4.suite he4 hd4 na nL nF
    refine store_ok (X := X.suite a ((a, oe4) :: (X.pn ++ pins))) (v := .ref a) S4 hN hi hloc rfl (fun s5 S5 => ?_) (.inr hln)
    have hlen : i < σ'.length := by
      rw [J.len]
      exact (List.getElem?_eq_some_iff.mp hi).1
    have hbody : PSs (X.suite a ((a, oe4) :: (X.pn ++ pins))) [.Assign [.Name r p1] (.Name n p2) p3] _ := pss_one (ps_set (X := X.suite a ((a, oe4) :: (X.pn ++ pins))) hN hj (.inl hlr) (pe_var hi (.inl hln) h1 h2) hsw (.inr hlr))
    refine wpAny_mono (hbody.run [] s5 _ H' { nx := fun σ6 H6 => σ6 = (σ'.set i (some (.ref a))).set j (some (.ref a)) ∧ H6 = H', rt := fun _ _ => False, bk := fun _ _ => False, ct := fun _ _ => False } S5 ⟨.ref a, by rw [List.getElem?_set_self hlen], rfl, rfl⟩) (fun f s6 hsp => ?_) (fun _ _ z => False.elim z)
    cases f with
    | next =>
      obtain ⟨σ6, H6, S6, e6, eH⟩ := hsp
      subst e6; subst eH
      have J6 : Inv X ((a, oe4) :: pins) ((σ'.set i (some (.ref a))).set j (some (.ref a))) H6 s6 := ⟨ok, S6.os, S6.bare, S6.base, S6.loc, S6.cell, S6.free, S6.freeC, fun p hp => S6.pin p (by
        rw [List.append_nil]
        rcases List.mem_append.mp hp with z | z
        · exact List.mem_cons_of_mem _ (List.mem_append_left _ z)
        · rcases List.mem_cons.mp z with z | z
          · rw [z]; exact List.mem_cons_self
          · exact List.mem_cons_of_mem _ (List.mem_append_right _ z)), S6.hok, S6.len⟩
      refine gone_ok J6 hN hi hln fun s7 J7 => ?_
      have he7 := (J7.pin (a, oe4) (List.mem_append_right _ List.mem_cons_self)).1
      have J7' : Inv X pins (((σ'.set i (some (.ref a))).set j (some (.ref a))).set i none) H6 s7 := ⟨ok, J7.os, J7.bare, J7.base, J7.loc, J7.cell, J7.free, J7.freeC, fun p hp => J7.pin p (by
        rcases List.mem_append.mp hp with z | z
        · exact List.mem_append_left _ z
        · exact List.mem_append_right _ (List.mem_cons_of_mem _ z)), J7.hok, J7.len⟩
      exact ⟨_, _, J7'.track he7 na n0 nL nC nP (excZ_ok ⟨oe4, vs4, he7, hz4, hd4⟩), hyes a na J.len⟩
    | brk => obtain ⟨_, _, _, z⟩ := hsp; exact z.elim
    | cont => obtain ⟨_, _, _, z⟩ := hsp; exact z.elim
    | ret u => obtain ⟨_, _, _, _, _, z⟩ := hsp; exact z.elim
  · cases f with
    | next =>
      obtain ⟨σ', H', J', q⟩ := hsp
      exact wpAny_execs_nil ⟨σ', H', J'.ofTry ok, q⟩
    | brk =>
      obtain ⟨σ', H', J', q⟩ := hsp
      exact ⟨σ', H', J'.ofTry ok, q⟩
    | cont =>
      obtain ⟨σ', H', J', q⟩ := hsp
      exact ⟨σ', H', J'.ofTry ok, q⟩
    | ret u =>
      obtain ⟨v, σ', H', J', r, q⟩ := hsp
      exact ⟨v, σ', H', J'.ofTry ok, r, q⟩
end
/-- isinstance(e, c), e an exception that is kept -/
def rIsK (K : PySem.W.Frag) : List V → Hp → VK → Prop := fun xs H Q => ∃ (a D : Addr) (c : V) (cv : Value) (b : Bool), xs = [.ref a, c] ∧ H a = some (.ext (ExcZ (.ref D) a)) ∧ ExcC K D ∧ (∀ u, RelV c u → u = cv) ∧ PySem.W.kitOne K (.ref D) cv = some b ∧ Q (.bl b) H
theorem call_isK {X : Cx} : CallR X (.builtin "isinstance") (rIsK X.K) := by
  intro pins s σ H xs us Q I r h
  obtain ⟨a, D, c, cv, b, rfl, hH, C, hcv, e, q⟩ := h
  cases r with
  | cons rx rr =>
    cases rr with
    | cons rt rr =>
      cases rr
      cases rx
      have ec := hcv _ rt
      subst ec
      obtain ⟨⟨oe, vs, hget, hz, hv⟩, _⟩ := I.hok a _ hH
      have J : PySem.W.InstAt s.heap a oe D none := by
        obtain ⟨oc, od, oda, osl⟩ := oe
        obtain ⟨h1, h2⟩ := hz
        dsimp only at h1 h2 hv
        subst h1 h2 hv
        exact ⟨hget, rfl, rfl, trivial⟩
      exact PySem.W.kia_one (PySem.W.handS_kitx_exc C.hg C.hk C.hs C.hd C.ha C.hn C.ht C.hm) I.kIn J e (fun z => nomatch z) fun tk => ⟨.bl b, H, I.kept (t' := tk) fun _ _ z => z, rfl, q⟩
end L2

namespace LamX
open PySem PySem.Spec PyProof.Rows L2
section
variable {X : Cx} {pins : List (Addr × Obj)} {σ : L2.St} {H HZ : Hp} {s s1 : Shared}
/-- the making of a lambda, told sharply: either nothing that is known changes, or the one table grows by the new code object -/
theorem lam_make3 {Z : Addr → Prop} {c P : Addr} {ps : Array Value} {params : Arguments} {body : Expr} {scope : Scope} {pos : Pos} {E : Value → Shared → Prop} {Q : Value → Shared → Prop} (I : Inv X pins σ H s) (TB : TabB X.base X.mg c P) (hcode : X.env.code = .ref c)
    (hP : H P = some (.tbl ps)) (ht : TriplesOk ps.toList) (ha : ∀ (pos : Pos) (cv : Value), codeAmong pos ps.toList = some cv → ∃ c, cv = .ref c ∧ H c = some (CodeO c (X.env.qual ++ "<lambda>")) ∧ Z c) (hdef : defaultsOf params X.env = ([], [])) (hfree : ∀ y ∈ scope.names, y.2 = .free → ∃ c, X.env.cells.lookup y.1 = some c)
    (h : ∀ (f c' : Addr) (pm ctv : Value) (H1 : Hp) (s' : Shared), Inv X pins σ H1 s' →
      ((H1 = H ∧ Z c') ∨ ∃ more : Array Value, H c' = none ∧ c' ≠ P ∧ H1 = upd (upd H P (.tbl (ps ++ more))) c' (CodeO c' (X.env.qual ++ "<lambda>")) ∧ TriplesOk (ps ++ more).toList ∧ ∀ (pos : Pos) (cv : Value), codeAmong pos (ps ++ more).toList = some cv → codeAmong pos ps.toList = some cv ∨ cv = .ref c') →
      s'.heap.get? f = some (PySem.W.kla_obj "<lambda>" (X.env.qual ++ "<lambda>") params body scope (cloFrom X.env.cells scope.names []) pm c' ctv) → H1 f = none → f ∉ frs X.stack → H1 c' = some (CodeO c' (X.env.qual ++ "<lambda>")) → Q (.ref f) s') :
    wpAny (model X.prog X.w) X.A (eval (.Lambda params body scope pos) X.env) Q E s := by
  refine PySem.W.kla_eval hdef ?_
  have bP : s.heap.BuiltinsAt X.mg P := TB.bm.keeps I.bk
  have hP' : s.heap.get? P = some { cls := .none, data := .fields ps } := I.hok P _ hP
  have nofr : ∀ f, s.heap.objs.size ≤ f → f ∉ frs X.stack := fun f hf z => by
    rcases List.mem_cons.mp (I.stkSub _ z) with e | e
    · have h1 := I.lt
      rw [← e] at h1
      exact Nat.lt_irrefl _ (Nat.lt_of_lt_of_le h1 hf)
    · exact I.nofs hf e
  cases hc : codeAmong pos ps.toList with
  | none =>
    refine PySem.W.kla_makeFunction (mg := X.mg) (c := c) (P := P) (ps := ps) (closure_ok hfree) I.ok.glob (I.mod.glob.keeps I.bk) hcode (TB.code.keeps I.bk) hP' ht hc TB.gP bP fun c' ctv h' tk hx hge hlt hrec htb => ?_
    obtain ⟨c2, oc, vs, t, e2, hoc, hd, hv⟩ := hrec
    cases e2
    have hsz : s.heap.objs.size ≤ h'.objs.size := Nat.le_trans hge (Nat.le_of_lt hlt)
    have nC : H c' = none := I.hok.fresh hge
    have I1 := inv_table (t' := tk) (more := #[rawInt pos.line, rawInt pos.col, .ref c']) (h' := h'.push (PySem.W.kla_obj "<lambda>" (X.env.qual ++ "<lambda>") params body scope (cloFrom X.env.cells scope.names []) ((X.mg "__name__").getD .none) c' ctv)) I hP
      (fun b o hb e => Heap.get?_push_of_some _ (hx b o hb e)) (Heap.get?_push_of_some _ htb) hge ⟨oc, vs, t, Heap.get?_push_of_some _ hoc, hd, hv⟩
    have eL : (ps ++ #[rawInt pos.line, rawInt pos.col, .ref c']).toList = ps.toList ++ [rawInt pos.line, rawInt pos.col, .ref c'] := by simp
    have n1 : h'.objs.size ≠ c' := Nat.ne_of_gt hlt
    have n2 : h'.objs.size ≠ P := Nat.ne_of_gt (Nat.lt_of_lt_of_le (Heap.lt_size hP') hsz)
    refine h h'.objs.size c' ((X.mg "__name__").getD .none) ctv _ _ I1 (.inr ⟨_, nC, Ne.symm (ne_of_none hP nC), rfl, by rw [eL]; exact PySem.TriplesOk_snoc _ _ _ _ ht, fun p' cv hcv => ?_⟩) (Heap.get?_push_size _ rfl) ?_ (nofr _ hsz) upd_same
    · rw [eL] at hcv
      exact among_app _ ht hcv
    · rw [upd_ne n1, upd_ne n2]
      exact I.hok.fresh hsz
  | some cv =>
    obtain ⟨c', e, hco, hz⟩ := ha pos cv hc
    subst e
    refine PySem.W.kla_makeFunctionHit (mg := X.mg) (c := c) (P := P) (ps := ps) (closure_ok hfree) I.ok.glob (I.mod.glob.keeps I.bk) hcode (TB.code.keeps I.bk) hP' ht hc bP fun ctv h' tk hx hsz => ?_
    have I1 : Inv X pins σ H { s with heap := h'.push (PySem.W.kla_obj "<lambda>" (X.env.qual ++ "<lambda>") params body scope (cloFrom X.env.cells scope.names []) ((X.mg "__name__").getD .none) c' ctv), toks := tk } := I.kept fun b o e => Heap.get?_push_of_some _ (hx b o e)
    exact h h'.objs.size c' ((X.mg "__name__").getD .none) ctv H _ I1 (.inl ⟨rfl, hz⟩) (Heap.get?_push_size _ rfl) (I.hok.fresh hsz) (nofr _ hsz) hco
end
end LamX
namespace L2
open PySem PySem.Spec PyProof.Rows
section
variable {X : Cx} {o e : Expr} {apos cpos : Pos} {td ty : TE}
/-- d.update(other) of dicts with ints and texts as keys -/
theorem pe_dupd (ho : PE X o td) (he : PE X e ty) (m : M1 X o "update" apos e cpos) : PE X (.Call (.Attribute o "update" apos) [e] [] cpos)
    (fun σ H Q => td σ H fun x H1 => ∃ a, x = .ref a ∧ IsD H1 a ∧ ty σ H1 fun y H2 => ∃ (b : Addr) (kvs more : List (Key × V)), y = .ref b ∧ a ≠ b ∧ H2 a = some (.dK kvs) ∧ H2 b = some (.dK more) ∧ kvs.length + more.length ≤ sizeLine ∧ Q .non (upd H2 a (.dK (mergeK kvs more)))) := by
  refine ⟨fun pins s σ H Q I h => ?_⟩
  refine wpAny_Call_method m.base m.few m.line PySem.F.plainAttrs_dict PySem.F.slot_dict_update PySem.F.type_dict_update (thn (ho.run pins s σ H _ I h) fun u s1 ⟨x, H1, I1, rx, a, ex, d, q1⟩ => ?_)
  subst ex
  obtain rfl : u = Value.ref a := rx
  obtain ⟨t1, t2, _⟩ := isD_at I1 d
  refine ⟨t1, t2, ?_⟩
  rw [m.trees]
  refine Calls.callWith_builtin rfl (Calls.evalArgs_plain (Calls.spliced_cons (thn (he.run pins s1 σ H1 _ I1 q1) fun iv s2 ⟨y, H2, I2, ry, b, kvs, more, ey, hne, ea, eb, hl, q2⟩ => Calls.spliced_nil ?_)))
  subst ey
  obtain rfl : iv = Value.ref b := ry
  obtain ⟨z1, hd1, vs1, r1, dd1⟩ := dk_of I2.hok ea
  obtain ⟨z2, hd2, vs2, r2, dd2⟩ := dk_of I2.hok eb
  refine call_meetsIn PySem.F.slot_dict_update dd1.typeIs PySem.F.entry_dict_update (PySem.F.args_dict_update_2 _ _) (meets_dict_update (mixKind X.prog X.w) a b hne hd2)
    ⟨vs1, vs2, dd1, dd2, (by rw [← r1.length, ← r2.length]; exact hl), fun h' hmm _ hs => ?_⟩
  have hz : (mergeK kvs more).length ≤ sizeLine := Nat.le_trans (length_mergeK more kvs) (by omega)
  have hee : ∃ q, h'.get? a = some q := let ⟨q, _, _, hq, _⟩ := hmm; ⟨q, hq⟩
  exact ⟨.non, _, d_write (t' := s2.toks) I2 (by rw [ea]; exact True.intro) hs hee (dk_new hz hd1 (r2.merge r1) hmm), rfl, q2⟩
end
end L2

namespace PL
open PySem PySem.Spec PyProof.Rows L2
/-! ## kinds of errors, outcomes -/
inductive Ek where
  | plan | wishes | number | text | bad | unlike | already | notyet | undo
  deriving DecidableEq
def Ek.nm : Ek → Str
  | .plan => "plan"
  | .wishes => "wishes"
  | .number => "number"
  | .text => "text"
  | .bad => "bad"
  | .unlike => "unlike"
  | .already => "already"
  | .notyet => "not yet"
  | .undo => "undo"
inductive Out where
  | val (d : PyData)
  | err (k : Ek)
/-- what _law_result tells of it -/
def Out.d : Out → PyData
  | .val d => .tuple [.str "returns", d]
  | .err k => .tuple [.str k.nm]
/-- what the written part says of the class x at c -/
structure Er (K : PySem.W.Frag) (x : Str) (c CS : Addr) : Prop where
  ns : PySem.W.nsIn K mainGlobals x = some (some (.ref c))
  ex : PySem.W.excIn K c [.type "ValueError", .type "Exception", .type "BaseException", .type "object"] "ValueError.__new__" = true
  kp : PySem.W.keepIn K (.ref c) = true
  sb : PySem.W.subIn K (.ref c) (.type "BaseException") = some true
  ty : PySem.W.typeIn K (.ref c) = some (.type "type")
  hd : PySem.W.hasDictIn K c = true
  ga : PySem.W.findIn K (.ref c) "__getattribute__" = some (some (.builtin "BaseException.__getattribute__"))
  gg : PySem.W.findIn K (.ref c) "__getattr__" = some none
  cl : PySem.W.findIn K (.ref c) "__class__" = some (some (.builtin "object.__class__"))
  mo : PySem.W.mroIn K c (.type "object") = some true
  le : PySem.W.subIn K (.ref c) (.ref CS) = some true
  ve : PySem.W.subIn K (.ref c) (.type "ValueError") = some true
/-- .. of the base class of all -/
structure ErB (K : PySem.W.Frag) (CS : Addr) : Prop where
  ns : PySem.W.nsIn K mainGlobals "LoanError" = some (some (.ref CS))
  sb : PySem.W.subIn K (.ref CS) (.type "BaseException") = some true
  ty : PySem.W.typeIn K (.ref CS) = some (.type "type")
  hd : PySem.W.hasDictIn K CS = true
  ve : PySem.W.nsIn K mainGlobals "ValueError" = some none
  gt : PySem.W.specialIn K (.builtin "object.__class__") "__get__" = some (some (.builtin "getset_descriptor.__get__"))
  tk : PySem.W.takesIn K (.builtin "object.__class__") = some true
def Ek.cls : Ek → Str
  | .plan => "InvalidPlan"
  | .wishes => "InvalidWishes"
  | .number => "InvalidNumber"
  | .text => "InvalidText"
  | .bad => "NotGood"
  | .unlike => "UnlikeWishes"
  | .already => "AlreadyGranted"
  | .notyet => "NotGranted"
  | .undo => "NothingToUndo"
structure ErrT (K : PySem.W.Frag) (cl : Ek → Addr) (CS : Addr) : Prop where
  b : ErB K CS
  e : ∀ k, Er K k.cls (cl k) CS
  pw : ∀ i j, PySem.W.subIn K (.ref (cl i)) (.ref (cl j)) = some (decide (i = j))
section
variable {K : PySem.W.Frag} {cl : Ek → Addr} {CS : Addr}
theorem ErrT.exm (T : ErrT K cl CS) (k : Ek) : PySem.W.exmOne K (.ref (cl k)) (.ref CS) = some true := PySem.W.exm_ref T.b.sb T.b.hd T.b.ty (T.e k).le
theorem ErrT.exc (T : ErrT K cl CS) (k : Ek) : ExcC K (cl k) := ⟨(T.e k).ga, (T.e k).gg, (T.e k).sb, (T.e k).hd, (T.e k).cl, T.b.gt, T.b.tk, (T.e k).mo⟩
theorem ErrT.kit (T : ErrT K cl CS) (i j : Ek) : PySem.W.kitOne K (.ref (cl i)) (.ref (cl j)) = some (decide (i = j)) := by
  have hp := T.pw i j
  unfold PySem.W.kitOne
  by_cases h : (Value.ref (cl i) == Value.ref (cl j)) = true
  · rw [if_pos h]
    have e : cl i = cl j := Value.ref.inj (beq_iff_eq.mp h)
    rw [← e, T.pw i i] at hp
    rw [← hp]
    simp
  · rw [if_neg h]
    obtain ⟨cd, hc, _⟩ := PySem.W.any_some (T.e j).hd
    unfold PySem.W.kitCls
    dsimp only
    rw [if_pos (by rw [hc, (T.e j).ty]; rfl)]
    exact hp
theorem ErrT.kitV (T : ErrT K cl CS) (i : Ek) : PySem.W.kitOne K (.ref (cl i)) (.type "ValueError") = some true := by
  unfold PySem.W.kitOne
  rw [if_neg (by intro z; exact nomatch (beq_iff_eq.mp z))]
  unfold PySem.W.kitCls
  dsimp only
  rw [if_pos (by decide +kernel)]
  exact (T.e i).ve
theorem ErrT.raises (T : ErrT K cl CS) {X : Cx} (hK : X.K = K) (k : Ek) : Raises X (.ref (cl k)) := by
  subst hK
  exact raises_own (T.e k).sb (T.e k).ty
end

/-! ## readings with an outcome -/
def OutP (cl : Ek → Addr) (o : Out) (E : XK) (Q : VK) (O : List Addr) (H' : Hp) : Prop := match o with
  | .val d => ∀ v, Rp (msk O H') v d → Q v H'
  | .err k => E (.ref (cl k)) none H'
def tOu (cl : Ek → Addr) (ρ : List SD) (o : Out) (E : XK) : TE := fun σ H Q => ∃ F O0 O1, SA F O0 O1 ρ σ H ∧
  ∀ H', SA F O0 O1 ρ σ H' → Ex (msk (O1 ++ O0) H) (msk (O1 ++ O0) H') → OutP cl o E Q (O1 ++ O0) H'
abbrev EvX (X : Cx) (cl : Ek → Addr) (ρ : List SD) (e : Expr) (o : Out) (E : XK) : Prop := PE X e (tOu cl ρ o E)
section
variable {X : Cx} {cl : Ek → Addr} {ρ : List SD} {e : Expr} {o : Out} {E : XK}
theorem ex_val {d : PyData} (h : Ev X ρ e d) : EvX X cl ρ e (.val d) E := pe_imp h fun σ H Q ⟨F, O0, O1, s, q⟩ => ⟨F, O0, O1, s, fun v d' H' s' e' hd r => by
  subst hd
  exact q H' s' e' v r⟩
end

/-! ## contracts of defs that raise -/
structure CtX where
  A : Type
  enc : A → List PyData
  pre : A → Prop
  kind : A → Ek
def spX (cl : Ek → Addr) (C : CtX) : Sp := fun vs H Q E => ∃ O a, C.pre a ∧ Al O H ∧ RpA (msk O H) vs (C.enc a) ∧ ∀ H', Ex H H' → E (.ref (cl (C.kind a))) none H'
def DefX (P : Program) (w : World) (K : PySem.W.Frag) (mg : Str → Option Value) (base : Heap) (k : Nat) (x : Str) (ps : List Str) (cl : Ek → Addr) (C : CtX) : Prop :=
  ∃ f fd, FnOk P w K mg base (L2.CX P w) k f fd ps (spX cl C) ∧ mg x = some (.ref f) ∧ PySem.W.keepIn K (.ref f) = true ∧ Kw fd ps
/-- what is wanted behind statements that may raise -/
def tSE (cl : Ek → Addr) (ρ : List SD) (P : Po) (R : Ek → Prop) (E : XK) : TS := fun D σ H => ∃ F O0 O1, SA F O0 O1 ρ σ H ∧
  (∀ ρ' O1' σ' H', P.nx ρ' → SA F O0 O1' ρ' σ' H' → D.nx σ' H') ∧
  (∀ v d ρ' O1' σ' H', P.rt d ρ' → SA F O0 O1' ρ' σ' H' → Rp (msk (O1' ++ O0) H') v d → D.rt v H') ∧
  (∀ ρ' O1' σ' H', P.bk ρ' → SA F O0 O1' ρ' σ' H' → D.bk σ' H') ∧
  (∀ ρ' O1' σ' H', P.ct ρ' → SA F O0 O1' ρ' σ' H' → D.ct σ' H') ∧
  (∀ k ρ' O1' σ' H', R k → SA F O0 O1' ρ' σ' H' → E (.ref (cl k)) none H')
abbrev HE (X : Cx) (cl : Ek → Addr) (st : Stmt) (ρ : List SD) (P : Po) (R : Ek → Prop) (E : XK) : Prop := PS X st (tSE cl ρ P R E)
abbrev HEs (X : Cx) (cl : Ek → Addr) (sts : List Stmt) (ρ : List SD) (P : Po) (R : Ek → Prop) (E : XK) : Prop := PSs X sts (tSE cl ρ P R E)
section
variable {X : Cx} {cl : Ek → Addr} {CS : Addr} {ρ ρ1 : List SD} {P P' : Po} {R : Ek → Prop} {E : XK} {st : Stmt} {rest A B : List Stmt} {e c : Expr} {es : List Expr} {d : PyData} {D : PyData → Prop} {pos pos' epos p : Pos} {x : Str} {M : List SD → Prop} {k n : Nat} {ps : List Str} {C : CtX}
theorem he_hs (h : HSs X rest ρ P) : HEs X cl rest ρ P R E := pss_imp h fun D σ H ⟨F, O0, O1, s, a, b, k, t, _⟩ => ⟨F, O0, O1, s, a, b, k, t⟩
theorem he_cons (h : HE X cl st ρ (P.to M) R E) (k : ∀ r, M r → HEs X cl rest r P R E) : HEs X cl (st :: rest) ρ P R E :=
  pss_imp (pss_cons h (pss_any k)) fun D σ H ⟨F, O0, O1, s, a, b, k, t, u⟩ => ⟨F, O0, O1, s, fun r O σ' H' q s' => ⟨r, q, F, O0, O, s', a, b, k, t, u⟩, b, k, t, u⟩
theorem he_drop (he : EvN X ρ e D) (k : HEs X cl rest ρ P R E) (hs : swapsWith e none pos.line X.env = pure false := by rfl) : HEs X cl (.Expr e pos :: rest) ρ P R E :=
  he_cons (M := fun r => r = ρ) (ps_imp (ps_expr he hs) fun Dn σ H ⟨F, O0, O1, s, a, b, k, t, u⟩ => ⟨F, O0, O1, s, fun v d H' s' e' hd r => a _ O1 _ H' rfl s'⟩) fun r z => by subst z; exact k
theorem he_if0 {b : Bool} (hc : EvT X ρ c b) (h1 : b = true → HEs X cl A ρ (P.to fun _ => False) R E) (k : b = false → HEs X cl rest ρ P R E) : HEs X cl (.If c A [] pos :: rest) ρ P R E := by
  cases b with
  | true =>
    refine he_cons (M := fun _ => False) ?_ fun r z => z.elim
    refine ⟨fun pins s σ H D I ⟨F, O0, O1, st, q⟩ => ?_⟩
    refine wpAny_If (thn (hc.run pins s σ H (fun b H' => b = true ∧ tSE cl ρ (P.to fun _ => False) R E D σ H') I ⟨F, O0, O1, st, fun b H' s' e' hd => ⟨hd.symm, F, O0, O1, s', q⟩⟩) fun z s1 ⟨H1, I1, q1⟩ => ?_)
    obtain ⟨rfl, q1⟩ := q1
    exact (h1 rfl).run pins s1 σ H1 D I1 q1
  | false =>
    refine he_cons (M := fun r => r = ρ) ?_ fun r z => by subst z; exact k rfl
    refine ⟨fun pins s σ H D I ⟨F, O0, O1, st, q⟩ => ?_⟩
    refine wpAny_If (thn (hc.run pins s σ H (fun b H' => b = false ∧ tSE cl ρ (P.to (fun r => r = ρ)) R E D σ H') I ⟨F, O0, O1, st, fun b H' s' e' hd => ⟨hd.symm, F, O0, O1, s', q⟩⟩) fun z s1 ⟨H1, I1, q1⟩ => ?_)
    obtain ⟨rfl, q1⟩ := q1
    exact (show PSs X [] _ from pss_nil).run pins s1 σ H1 D I1 (by
      obtain ⟨F, O0, O1, s', a, _⟩ := q1
      exact a ρ O1 σ H1 rfl s')
/-- a def that raises is called, as a statement -/
theorem he_call (F : DefX X.prog X.w X.K X.mg X.base k x ps cl C) (a : C.A) (hr : Room n X.A) (px : Passes (L2.CX X.prog X.w) X E) (hg : Gl X x) (ha : EvA X ρ (e :: es) (C.enc a)) (hp : C.pre a) (hR : R (C.kind a)) (hkn : k ≤ n := by decide)
    (hdb : (x == ("__debug__" : Str)) = false := by decide) (he : starEach (e :: es) X.env = (false, eval e X.env) :: starEach es X.env := by rfl) (hpl : (backTo pos (starEach es X.env)).any (·.1) = false := by rfl) (hs : swapsWith (.Call (.Name x p) (e :: es) [] pos) none epos.line X.env = pure false := by rfl) :
    HEs X cl (.Expr (.Call (.Name x p) (e :: es) [] pos) epos :: rest) ρ P R E := by
  obtain ⟨f, fd, F1, F2, F3, F4⟩ := F
  refine he_cons (M := fun _ => False) (ps_imp (ps_expr (pe_call F1 (hr.mono hkn) hg F2 F3 F4.bd .nil px ha hdb he hpl) hs) fun Dn σ H ⟨F, O0, O1, s, _, _, _, _, u⟩ => ⟨F, O0, O1, s, fun vs ds H1 s1 e1 hd r1 => ?_⟩) fun r z => z.elim
  show spX cl C (vs ++ []) H1 _ E
  rw [List.append_nil]
  subst hd
  exact ⟨O1 ++ O0, a, hp, s1.al, r1, fun H' e' => u _ ρ O1 σ H' hR (s1.ex e')⟩
/-- raise X("..") -/
theorem he_raise {m : Str} {j : Nat} {p2 : Pos} (T : ErrT X.K cl CS) (q : Ek) (hm : X.mg q.cls = some (.ref (cl q))) (hc : X.calm = true) (tk : Takes X (fun cls d _ H => E cls d H)) (hg : Gl X q.cls) (hR : R q) (hdb : (q.cls == ("__debug__" : Str)) = false := by decide) :
    HEs X cl (.Raise (some (.Call (.Name q.cls p) [.Constant (.str m) j p2] [] pos)) none pos' :: rest) ρ P R E :=
  he_cons (M := fun _ => False) (ps_imp (ps_raise hc tk (pmk_own PySem.F.excBase_ValueError (T.e q).ex hm (T.e q).kp (T.raises rfl q) hg hdb)) fun Dn σ H ⟨F, O0, O1, s, _, _, _, _, u⟩ => u q ρ O1 σ H hR s) fun r z => z.elim
/-- .. a call as an expression, in a lambda -/
theorem ex_err (F : DefX X.prog X.w X.K X.mg X.base k x ps cl C) (a : C.A) (hr : Room n X.A) (px : Passes (L2.CX X.prog X.w) X E) (hg : Gl X x) (ha : EvA X ρ (e :: es) (C.enc a)) (hp : C.pre a) (hkn : k ≤ n := by decide)
    (hdb : (x == ("__debug__" : Str)) = false := by decide) (he : starEach (e :: es) X.env = (false, eval e X.env) :: starEach es X.env := by rfl) (hpl : (backTo pos (starEach es X.env)).any (·.1) = false := by rfl) : EvX X cl ρ (.Call (.Name x p) (e :: es) [] pos) (.err (C.kind a)) E := by
  obtain ⟨f, fd, F1, F2, F3, F4⟩ := F
  refine pe_imp (pe_call F1 (hr.mono hkn) hg F2 F3 F4.bd .nil px ha hdb he hpl) fun σ H Q ⟨F, O0, O1, s, q⟩ => ⟨F, O0, O1, s, fun vs ds H1 s1 e1 hd r1 => ?_⟩
  show spX cl C (vs ++ []) H1 _ E
  rw [List.append_nil]
  subst hd
  exact ⟨O1 ++ O0, a, hp, s1.al, r1, fun H' e' => q H' (s1.ex e') (e1.trans e'.msk)⟩
theorem ex_errK {kws : List Keyword} (F : DefX X.prog X.w X.K X.mg X.base k x ps cl C) (a : C.A) (hr : Room n X.A) (px : Passes (L2.CX X.prog X.w) X E) (hg : Gl X x) (ha : EvKN X ρ kws (Eq (C.enc a))) (hp : C.pre a) (hps : ps ≠ [] := by decide) (hkn : k ≤ n := by decide)
    (hall : (backToKw pos (keywordEach kws X.env)).all (·.1.isSome) = true := by rfl) (hks : (backToKw pos (keywordEach kws X.env)).filterMap (·.1) = ps.drop 0 := by rfl)
    (hdb : (x == ("__debug__" : Str)) = false := by decide) (hpl : ((backTo pos (starEach [] X.env)).any (·.1) || (backToKw pos (keywordEach kws X.env)).any (·.1.isNone)) = false := by rfl) : EvX X cl ρ (.Call (.Name x p) [] kws pos) (.err (C.kind a)) E := by
  obtain ⟨f, fd, F1, F2, F3, F4⟩ := F
  refine pe_imp (pe_callK0 F1 (hr.mono hkn) hg F2 F3 (F4.kb hps 0) px ha hall hks hdb hpl) fun σ H Q ⟨F, O0, O1, s, q⟩ => ⟨F, O0, O1, s, fun vs ds H1 s1 e1 hd r1 => ?_⟩
  show spX cl C (kwG 0 [] vs) H1 _ E
  subst hd
  exact ⟨O1 ++ O0, a, hp, s1.al, r1, fun H' e' => q H' (s1.ex e') (e1.trans e'.msk)⟩
end
section
variable {P : Program} {w : World} {K : PySem.W.Frag} {mg : Str → Option Value} {base : Heap} {cl : Ek → Addr}
theorem defX_mk {x : Str} {st : Stmt} {f : Addr} {fd : FuncData} {N ps : List Str} {k : Nat} {C : CtX} (A : DefAt K mg x st ps f fd) (S : FnScope N ps (defScope st)) (hl : ∀ a, (C.enc a).length = ps.length)
    (body : ∀ a, C.pre a → ∀ (cdv : Value) (A : Around) (outer : List Env) (s : Shared) (H : Hp) (E : XK), Room k (A.deeper (envOfC x (defScope st) s.heap.objs.size f cdv)) →
      Takes (cxOf (L2.CX P w) P w K mg base N x (defScope st) f cdv A outer s H E) (fun cls d _ H => E cls d H) → Passes (L2.CX P w) (cxOf (L2.CX P w) P w K mg base N x (defScope st) f cdv A outer s H E) E →
      HEs (cxOf (L2.CX P w) P w K mg base N x (defScope st) f cdv A outer s H E) cl (defBody st) ((C.enc a).map SD.dat ++ List.replicate (N.length - (C.enc a).length) SD.un) { nx := fun _ => False, rt := fun _ _ => False } (fun q => q = C.kind a) E) :
    DefX P w K mg base (k + 1) x ps cl C := by
  refine ⟨f, fd, ?_, A.at_, A.fn.kp, A.kw⟩
  refine A.fn.okX S (fun vs H Q E ⟨O, ds, hp, al, r, kt⟩ => by rw [r.len]; exact hl ds) (fun cdv A outer s H vs Q E hr ⟨O, ds, hp, al, r, kt⟩ => ?_)
  have tk : Takes (cxOf (L2.CX P w) P w K mg base N x (defScope st) f cdv A outer s H E) (fun cls d _ H => E cls d H) := takes_of rfl rfl rfl rfl
  refine ⟨_, body ds hp cdv A outer s H E hr tk (passes_call tk fun _ _ _ _ h => h), H, O, [], ⟨Ex.refl _, ?_, fun a ha => (by cases ha), al⟩, fun _ _ _ _ z => z.elim, fun _ _ _ _ _ _ z => z.elim, fun _ _ _ _ z => z.elim, fun _ _ _ _ z => z.elim, ?_⟩
  · unfold L2.start
    rw [r.len]
    exact Sl.start r
  · intro q ρ' O1' σ' H' e s'
    subst e
    exact kt H' s'.fr
end
end PL

namespace PL
open PySem PySem.Spec PyProof.Rows L2 LamX
/-! ## tables of code objects, functions as values -/
def TabO (Hm H : Hp) (P : Addr) (q : Str) : Prop := ∃ ps : Array Value, H P = some (.tbl ps) ∧ TriplesOk ps.toList ∧ ∀ (pos : Pos) (cv : Value), codeAmong pos ps.toList = some cv → ∃ c, cv = .ref c ∧ Hm c = some (CodeO c q)
def tabM (T : List (Addr × Str)) : Mt where
  fp := T.map (·.1)
  P := fun Hm H v => v = .non ∧ ∀ p ∈ T, TabO Hm H p.1 p.2
  mono := fun h e k => ⟨h.1, fun p hp => by
    obtain ⟨ps, h1, h2, h3⟩ := h.2 p hp
    refine ⟨ps, (k _ (List.mem_map.mpr ⟨p, hp, rfl⟩)).trans h1, h2, fun pos cv hc => ?_⟩
    obtain ⟨c, e1, e2⟩ := h3 pos cv hc
    exact ⟨c, e1, e _ _ e2⟩⟩
  al := fun h a ha => by
    obtain ⟨p, hp, rfl⟩ := List.mem_map.mp ha
    obtain ⟨ps, h1, _⟩ := h.2 p hp
    rw [h1]
    exact fun z => nomatch z
/-- a def as a value -/
def fnM (f : Addr) : Mt where
  fp := []
  P := fun _ _ v => v = .ref f
  mono := fun h _ _ => h
  al := fun _ a ha => nomatch ha
/-- an exception that is kept -/
def excM (a : Addr) (cls : Value) : Mt where
  fp := []
  P := fun Hm _ v => v = .ref a ∧ Hm a = some (.ext (ExcZ cls a))
  mono := fun h e _ => ⟨h.1, e _ _ h.2⟩
  al := fun _ a ha => nomatch ha
/-- a dict that changes no more -/
def dctZ (a : Addr) (o : Obj) (kvs : List (Key × V)) : Mt where
  fp := []
  P := fun Hm _ v => v = .ref a ∧ Hm a = some (.frz o (.dK kvs))
  mono := fun h e _ => ⟨h.1, e _ _ h.2⟩
  al := fun _ a ha => nomatch ha
/-- slots of which nothing is known, one of such a thing -/
theorem Sl.uns {Hm H : Hp} : ∀ {n : Nat} {σ : Sg}, σ.length = n → Sl Hm H (List.replicate n .un) σ []
  | 0, [], _ => .nil
  | 0, _ :: _, h => by simp at h
  | n + 1, [], h => by simp at h
  | n + 1, x :: σ, h => .un (Sl.uns (by simpa using h))
theorem Sl.setM0 {Hm H : Hp} {m : Mt} {v : V} (h0 : m.fp = []) (hp : m.P Hm H v) {ρ : List SD} {σ : Sg} {as : List Addr} (h : Sl Hm H ρ σ as) : ∀ {i : Nat}, plainAt ρ i = true → Sl Hm H (ρ.set i (.mt m)) (σ.set i (some v)) as := by
  have key : ∀ {ρ : List SD} {σ : Sg} {as : List Addr}, Sl Hm H ρ σ as → Sl Hm H (.mt m :: ρ) (some v :: σ) as := fun {ρ σ as} s => by
    have q := Sl.mt (m := m) hp (fun a ha => by rw [h0] at ha; cases ha) s
    rw [h0, List.nil_append] at q
    exact q
  induction h with
  | nil => intro i e; simp [plainAt] at e
  | un h ih =>
    intro i e
    cases i with
    | zero => exact key h
    | succ i => exact .un (ih (by simpa [plainAt] using e))
  | dat q h ih =>
    intro i e
    cases i with
    | zero => exact key h
    | succ i => exact .dat q (ih (by simpa [plainAt] using e))
  | own h1 h2 h3 h4 h ih =>
    intro i e
    cases i with
    | zero => simp [plainAt, plainSD] at e
    | succ i => exact .own h1 h2 h3 h4 (ih (by simpa [plainAt] using e))
  | mt h1 h2 h ih =>
    intro i e
    cases i with
    | zero => simp [plainAt, plainSD] at e
    | succ i => exact .mt h1 h2 (ih (by simpa [plainAt] using e))

/-! ## the def that tells how a call ends: its contract -/
/-- what is known of the call of its argument, at the places of its context -/
def ActOf (X : Cx) (cl : Ek → Addr) (a : Str) (f : Addr) (o : Out) (S : Hp → Prop) (O : List Addr) : Prop :=
  ∀ (W : WX) (pn : List (Addr × Obj)) (xe : Value → Shared → Prop) (E : XK) (p1 p2 : Pos), Takes (X.tr pn xe) W → (∀ cls d σ' H', E cls d H' → W cls d σ' H') →
    PE (X.tr pn xe) (.Call (.Name a p1) [] [] p2) (fun σZ HZ Q1 => σZ[0]? = some (some (.ref f)) ∧ S HZ ∧ ∀ H2, S H2 → Ex (msk O HZ) (msk O H2) → OutP cl o E Q1 O H2)
def DefR (P : Program) (w : World) (K : PySem.W.Frag) (mg : Str → Option Value) (base : Heap) (k : Nat) (x : Str) (cl : Ek → Addr) : Prop :=
  ∃ (g : Addr) (a : Str) (Ng : List Str) (pg : Arguments) (bg : List Stmt) (sg : Scope) (dV kV doc pm cdv ct oc : Value) (an od : Option Addr) (osl : Array (Option Value)),
    mg x = some (.ref g) ∧ PySem.W.keepIn K (.ref g) = true ∧ K.lookup g = some ⟨oc, od, .func (PySem.W.fnOf x x pg bg sg dV kV doc pm an cdv ct), osl⟩ ∧ PySem.W.codeIn K cdv x = true ∧ L2.Binds K (PySem.W.fnOf x x pg bg sg dV kV doc pm an cdv ct) [a] [] ∧
    FnScope Ng [a] sg ∧ Ng[0]? = some a ∧ Vis sg a ∧ (a == ("__debug__" : Str)) = false ∧ (a == ("__classdict__" : Str)) = false ∧
    ∀ (A : Around) (outer : List Env) (s : Shared) (H : Hp) (f : Addr) (o : Out) (S : Hp → Prop) (O : List Addr) (Q : VK), Room k (A.deeper (envOfC x sg s.heap.objs.size g cdv)) → S H → (∀ H1 H2, S H1 → Ex H1 H2 → S H2) → (∀ H1, S H1 → Al O H1) →
      ActOf (cxOf C8.CX0 P w K mg base Ng x sg g cdv A outer s H C8.E0) cl a f o S O → (∀ v H3, S H3 → Rp (msk O H3) v o.d → Q v H3) →
      ∃ t, PSs (cxOf C8.CX0 P w K mg base Ng x sg g cdv A outer s H C8.E0).nox bg t ∧ t { nx := fun _ H' => Q .non H', rt := Q } (L2.start Ng [.ref f]) H
section
variable {X : Cx} {cl : Ek → Addr} {ρ : List SD}
theorem ev_lam {T : List (Addr × Str)} {x : Str} {k c P : Addr} {o : Out} {params : Arguments} {body : Expr} {scope : Scope} {p lpos pos : Pos} (R : DefR X.prog X.w X.K X.mg X.base (k + 1) x cl) (j : Nat) (hr : Room (k + 2) X.A) (hg : Gl X x) (TB : TabB X.base X.mg c P) (hcode : X.env.code = .ref c)
    (hmT : (P, X.env.qual ++ "<lambda>") ∈ T) (hu : ∀ p ∈ T, p.1 = P → p.2 = X.env.qual ++ "<lambda>") (L : LamS X.env.scope scope)
    (hbody : ∀ (A : Around) (outer : List Env) (s : Shared) (H : Hp) (E : XK) (f c' : Addr), Room k (A.deeper (lamEnv X scope s.heap.objs.size f c')) → Passes (L2.CX X.prog X.w) (lamCx X A outer s H E scope f c') E → EvX (lamCx X A outer s H E scope f c') cl ρ body o E)
    (hj : ρ[j]? = some (.mt (tabM T)) := by rfl) (hdef : defaultsOf params X.env = ([], []) := by rfl)
    (hbind : ∀ (q : Str) (cl : List (Str × Addr)) (pm cv ctv : Value), bindArgs (PySem.W.kla_fn "<lambda>" q params body scope cl pm cv ctv) ⟨[], []⟩ = pure [] := by intros; rfl)
    (hdb : (x == ("__debug__" : Str)) = false := by decide) : Ev X ρ (.Call (.Name x p) [.Lambda params body scope lpos] [] pos) o.d := by
  obtain ⟨g, a, Ng, pg, bg, sg, dV, kV, doc, pm, cdv, ct, oc, an, od, osl, hm, hk, lk, hcg, hb, Sg, hNg, hva, hd, hcd, hG⟩ := R
  refine ⟨fun pins s σ H Q I ⟨F, O0, O1, sa, q⟩ => ?_⟩
  obtain ⟨v, e1, ⟨_, hT⟩, hfp⟩ := sa.getM hj
  obtain ⟨ps, hP, ht, ha⟩ := hT _ hmT
  refine wpAny_Call_Name_kw (ld_glob I hg hm ?_ hdb)
  refine PySem.W.callWith_K (h₀ := X.base) I.ok.mod.kin hk ?_ (by rfl) (by rfl)
  show wpAny _ _ (spliced ((false, eval (.Lambda params body scope lpos) X.env) :: backTo pos (starEach [] X.env))) _ _ s
  refine Calls.spliced_cons (lam_make3 (Z := fun c => msk (O1 ++ O0) H c = some (CodeO c (X.env.qual ++ "<lambda>"))) I TB hcode hP ht (fun pos cv hc => by
    obtain ⟨c1, z1, z2⟩ := ha pos cv hc
    exact ⟨c1, z1, (msk_some z2).2, z2⟩) hdef (L.has I.ok) fun f c' pm' ctv H1 s' I1 hH hf hfn hfr hco => ?_)
  refine Calls.spliced_nil ⟨I1.kIn, ?_⟩
  -- the state behind the making
  have sP : P ∈ (tabM T).fp := List.mem_map.mpr ⟨_, hmT, rfl⟩
  have st : SA F O0 O1 ρ σ H1 ∧ Ex (msk (O1 ++ O0) H) (msk (O1 ++ O0) H1) ∧ msk (O1 ++ O0) H1 c' = some (CodeO c' (X.env.qual ++ "<lambda>")) := by
    rcases hH with ⟨e, z⟩ | ⟨more, nC, nP, e, ht2, ha2⟩
    · rw [e]
      exact ⟨sa, Ex.refl _, z⟩
    · have nO : c' ∉ O1 ++ O0 := fun z => sa.al c' z nC
      have ex : Ex (msk (tabM T).fp H) H1 := fun b u hb => by
        obtain ⟨z1, z2⟩ := msk_some hb
        rw [e, upd_ne (ne_of_none z2 nC), upd_ne fun z => z1 (by rw [z]; exact sP)]
        exact z2
      have ec : msk (O1 ++ O0) H1 c' = some (CodeO c' (X.env.qual ++ "<lambda>")) := by
        rw [msk_out nO, e, upd_same]
      have em0 : ∀ b u, msk (O1 ++ O0) H b = some u → msk (O1 ++ O0) H1 b = some u := fun b u hb => by
        obtain ⟨z1, z2⟩ := msk_some hb
        rw [msk_out z1]
        refine ex b u ?_
        rw [msk_out fun z => z1 (List.mem_append_left _ (hfp b z))]
        exact z2
      obtain ⟨s1, em⟩ := sa.updMt hj ex fun v' hv' => by
        rw [e1] at hv'
        cases hv'
        refine ⟨by assumption, fun p hp => ?_⟩
        by_cases hb : p.1 = P
        · refine ⟨ps ++ more, ?_, ht2, fun pos cv hc => ?_⟩
          · rw [hb, e, upd_ne (Ne.symm nP), upd_same]
          · rw [hu p hp hb]
            rcases ha2 pos cv hc with z | z
            · obtain ⟨c1, z1, z2⟩ := ha pos cv z
              exact ⟨c1, z1, em0 _ _ z2⟩
            · exact ⟨c', z, ec⟩
        · obtain ⟨ps2, w1, w2, w3⟩ := hT p hp
          refine ⟨ps2, ?_, w2, fun pos cv hc => ?_⟩
          · rw [e, upd_ne (ne_of_none w1 nC), upd_ne hb]
            exact w1
          · obtain ⟨c1, z1, z2⟩ := w3 pos cv hc
            exact ⟨c1, z1, em0 _ _ z2⟩
      exact ⟨s1, em, ec⟩
  obtain ⟨s1, em, hZ⟩ := st
  have S1 : SA F O0 O1 ρ σ H1 ∧ Ex (msk (O1 ++ O0) H1) (msk (O1 ++ O0) H1) := ⟨s1, Ex.refl _⟩
  have rc : codeAny (model X.prog X.w) X.A (.call (.ref g) ⟨[.ref f], []⟩) (CR C8.CX0 X.stack X.prog X.w H1 s' Q C8.E0) s' := by
    refine run_ofS (N := Ng) (ps := [a]) (us := [.ref f]) (vs := [.ref f]) lk hcg Sg hr I1.env0 (hb s' [.ref f] I1.kIn rfl) (.cons rfl .nil) rfl fun hr' => ?_
    have hAct : ActOf (cxOf C8.CX0 X.prog X.w X.K X.mg X.base Ng x sg g cdv X.A X.stack s' H1 C8.E0) cl a f o (fun H2 => SA F O0 O1 ρ σ H2 ∧ Ex (msk (O1 ++ O0) H1) (msk (O1 ++ O0) H2)) (O1 ++ O0) := by
      intro W pn xe E p1 p2 tk hW
      refine pe_imp (pe_act (i := 0) (tb := tOu cl ρ o E) I1 L hf hfn hfr (hbind _ _ _ _ _) tk hW hr' (fun A outer s H hr2 => hbody A outer s H E f c' hr2 (passes_call (takes_of rfl rfl rfl rfl) fun _ _ _ _ h => h)) hNg hva hd hcd) fun σZ HZ Q1 ⟨h1, h2, h3⟩ => ?_
      exact ⟨h1, (msk_some (h2.2 _ _ hZ)).2, F, O0, O1, h2.1, fun H' s' e' => h3 H' ⟨s', h2.2.trans e'⟩ e'⟩
    obtain ⟨t', ht', hq'⟩ := hG X.A X.stack s' H1 f o _ (O1 ++ O0) Q hr' S1 (fun Ha Hb ⟨h1, h2⟩ e => ⟨h1.ex e, h2.trans e.msk⟩) (fun Ha h => h.1.al) hAct (fun v H3 h r => q v o.d H3 h.1 (em.trans h.2) rfl r)
    exact ⟨t', ht'.nox, hq'⟩
  refine wpAny_call (codeAny_mono rc fun r s2 hq => ?_)
  cases r with
  | error e => exact (show False from hq).elim
  | ok fl =>
    cases fl with
    | ret u => exact I1.after hq
    | next => exact False.elim hq
    | brk => exact False.elim hq
    | cont => exact False.elim hq
end
end PL

namespace PL
open PySem PySem.Spec PyProof.Rows L2 LamX
/-! ## the walk of the def that tells how a call ends -/
theorem h1_asg {X : Cx} {ρ ρ1 : List SD} {d : PyData} {js : List Nat} {tg e : Expr} {pos : Pos} (he : Ev X ρ e d) (hg : EvG X tg ρ d ρ1 js) (hs : swapsWithSole [tg] e pos.line X.env = pure false := by rfl) (hw : swappedStores [tg] e X.env = pure none := by rfl)
    (h1 : (assignEach [tg] X.env).map (·.2) = [assign tg X.env] := by rfl) : HS X (.Assign [tg] e pos) ρ { nx := (· = ρ1), rt := fun _ _ => False } :=
  ps_imp (ps_asg he hg hs hw h1) fun Dn σ H ⟨F, O0, O1, s, a, b, k, t⟩ => ⟨F, O0, O1, s, fun v d' H' s' e' hd r => by
    subst hd
    exact ⟨F, O0, O1, s', r, fun σ' _ s2 => a ρ1 O1 σ' H' rfl s2⟩⟩
def bareSD : SD → Prop
  | .own _ => False
  | .mt m => m.fp = []
  | _ => True
theorem Sl.bare {Hm H : Hp} {ρ : List SD} {σ : Sg} {as : List Addr} (h : Sl Hm H ρ σ as) : (∀ s ∈ ρ, bareSD s) → as = [] := by
  induction h with
  | nil => exact fun _ => rfl
  | un _ ih => exact fun b => ih fun s hs => b s (List.mem_cons_of_mem _ hs)
  | dat _ _ ih => exact fun b => ih fun s hs => b s (List.mem_cons_of_mem _ hs)
  | own _ _ _ _ _ _ => exact fun b => (b _ List.mem_cons_self).elim
  | mt _ _ _ ih =>
    intro b
    rw [ih fun s hs => b s (List.mem_cons_of_mem _ hs), List.append_nil]
    exact b _ List.mem_cons_self
section
variable {X : Cx} {cl : Ek → Addr} {CS : Addr} {a rn an en : Str} {ir ia ie : Nat} {f : Addr} {o : Out} {S : Hp → Prop} {O : List Addr} {Q : VK} {H : Hp} {ρ1 : List SD} {st1 : Stmt} {rest : List Stmt} {ap p1 p2 p3 np q1 q2 q3 pos pos' : Pos}
theorem result_run (T : ErrT X.K cl CS) (hs : X.stack = X.env :: X.outer) (hf : X.env.frame = some X.env.locals) (hex : X.ex = []) (hN : X.N.Nodup) (hia : X.N[ia]? = some an) (hxa : Loc X.env.scope an) (hfa : X.fn an = true)
    (hie : X.N[ie]? = some en) (hle : X.env.kindOf en = some .local) (hir : X.N[ir]? = some rn) (hlr : X.env.kindOf rn = some .local) (hne : ie ≠ ir) (hc : Names X "LoanError" (.ref CS)) (hpl : plainAt (List.replicate X.N.length .un) ir = true) (hpa : plainAt ρ1 ia = true)
    (hsw1 : swapsWith (.Call (.Name a p1) [] [] p2) (some (.Name an ap)) p3.line X.env = pure false) (hsw2 : swapsWith (.Name en q2) (some (.Name rn q1)) q3.line X.env = pure false) (hd1 : (en == ("__debug__" : Str)) = false) (hd2 : (en == ("__classdict__" : Str)) = false)
    (hS : S H) (hSx : ∀ H1 H2, S H1 → Ex H1 H2 → S H2) (hSal : ∀ H1, S H1 → Al O H1) (hact : ActOf X cl a f o S O) (hQ : ∀ v H3, S H3 → Rp (msk O H3) v o.d → Q v H3)
    (hlen : X.N.length = (X.N.length - 1) + 1) (hρ0 : ρ1[0]? = some (.mt (fnM f))) (hb1 : ∀ s ∈ ρ1, bareSD s)
    (h1 : HS X.nox st1 (.mt (fnM f) :: List.replicate (X.N.length - 1) .un) { nx := (· = ρ1), rt := fun _ _ => False })
    (hV : ∀ d, o = .val d → HSs X.nox rest (ρ1.set ia (.dat d)) { nx := fun _ => False, rt := fun d' _ => d' = o.d })
    (hE : ∀ k e, o = .err k → HSs X.nox rest ((List.replicate X.N.length .un).set ir (.mt (excM e (.ref (cl k))))) { nx := fun _ => False, rt := fun d' _ => d' = o.d }) :
    ∃ t, PSs X.nox (st1 :: .Try [.Assign [.Name an ap] (.Call (.Name a p1) [] [] p2) p3] [.ExceptHandler (some (.Name "LoanError" np)) (some en) [.Assign [.Name rn q1] (.Name en q2) q3] pos'] [] [] pos :: rest) t ∧ t { nx := fun _ H' => Q .non H', rt := Q } (L2.start X.N [.ref f]) H := by
  have s0 : SA H O [] (.mt (fnM f) :: List.replicate (X.N.length - 1) .un) (L2.start X.N [.ref f]) H := by
    refine ⟨Ex.refl _, ?_, fun b hb => (by cases hb), hSal H hS⟩
    show Sl _ H _ (some (V.ref f) :: List.replicate (X.N.length - 1) none) []
    exact Sl.mt (m := fnM f) rfl (fun b hb => by cases hb) (Sl.uns (by simp))
  -- behind the rest
  have done : ∀ (ρ : List SD) (σ2 : Sg) (H2 : Hp), S H2 → Sl (msk O H2) H2 ρ σ2 [] → tS ρ { nx := fun _ => False, rt := fun d' _ => d' = o.d } { nx := fun _ H' => Q .non H', rt := Q } σ2 H2 := fun ρ σ2 H2 h2 sl =>
    ⟨H2, O, [], ⟨Ex.refl _, sl, fun b hb => (by cases hb), hSal H2 h2⟩, fun _ _ _ _ z => z.elim, fun v d' ρ' O1' σ' H' hd s' r => by
      subst hd
      exact hQ v H' (hSx H2 H' h2 s'.fr) (r.mono (Ex.mskSub fun b hb => List.mem_append_right _ hb)), fun _ _ _ _ z => z.elim, fun _ _ _ _ z => z.elim⟩
  have bare1 : ∀ {O1' : List Addr} {σ1 : Sg} {H1 : Hp}, SA H O O1' ρ1 σ1 H1 → Sl (msk O H1) H1 ρ1 σ1 [] ∧ σ1[0]? = some (some (.ref f)) ∧ S H1 := fun {O1' σ1 H1} s1 => by
    have e := s1.sl.bare hb1
    subst e
    obtain ⟨v, g1, g2, _⟩ := s1.sl.getM hρ0
    have g2' : v = .ref f := g2
    subst g2'
    exact ⟨s1.sl, g1, hSx H H1 hS s1.fr⟩
  cases o with
  | val d =>
    have hp : PE (X.tr X.pn fun _ _ => False) (.Call (.Name a p1) [] [] p2) _ := hact (fun _ _ _ _ => False) X.pn (fun _ _ => False) C8.E0 p1 p2 (fun u s z => by
      obtain ⟨_, _, _, _, _, _, _, _, _, _, _, _, _, _, _, _, z⟩ := z
      exact z.elim) (fun _ _ _ _ z => z)
    refine ⟨_, pss_cons h1 (pss_cons (ps_try_thru0 (X := X.nox) (show PSs X.nox.nox _ _ from pss_one (ps_set (X := X.nox.nox) hN hia hxa hp hsw1 (.inl hfa)))) (hV d rfl)), ?_⟩
    refine ⟨H, O, [], s0, fun ρ' O1' σ1 H1 e s1 => ?_, fun _ _ _ _ _ _ z => z.elim, fun _ _ _ _ z => z.elim, fun _ _ _ _ z => z.elim⟩
    subst e
    obtain ⟨sl, g0, hS1⟩ := bare1 s1
    refine ⟨g0, hS1, fun H2 hS2 ex v r => ?_⟩
    exact done _ _ H2 hS2 ((sl.mono ex fun b hb => by cases hb).set hpa r)
  | err k =>
    have hb : ∀ (W : WX) (pn : List (Addr × Obj)) (xe : Value → Shared → Prop), Takes (X.nox.tr pn xe) W → PSs (X.nox.tr pn xe) [.Assign [.Name an ap] (.Call (.Name a p1) [] [] p2) p3]
        (fun D σ H => ∃ Ech : XK, (∀ cls d σ' H', Ech cls d H' → W cls d σ' H') ∧ σ[0]? = some (some (.ref f)) ∧ S H ∧ ∀ H2, S H2 → Ex (msk O H) (msk O H2) → Ech (.ref (cl k)) none H2) := fun W pn xe tk =>
      ⟨fun pins s σ H D I ⟨Ech, hW, g1, g2, g3⟩ => (pss_one (ps_set (X := X.tr pn xe) hN hia hxa (hact W pn xe Ech p1 p2 tk hW) hsw1 (.inl hfa))).run pins s σ H D I ⟨g1, g2, g3⟩⟩
    have hR : PSs X.nox rest (fun D σ H => ∃ e : Addr, True ∧ tS ((List.replicate X.N.length .un).set ir (.mt (excM e (.ref (cl k))))) { nx := fun _ => False, rt := fun d' _ => d' = Out.d (.err k) } D σ H) := pss_any fun e _ => hE k e rfl
    refine ⟨_, pss_cons h1 (pss_cons (ps_try_keep (X := X.nox) hs hf hex hN hie hle hir hlr hc hsw2 hb hd1 hd2) hR), ?_⟩
    refine ⟨H, O, [], s0, fun ρ' O1' σ1 H1 e s1 => ?_, fun _ _ _ _ _ _ z => z.elim, fun _ _ _ _ z => z.elim, fun _ _ _ _ z => z.elim⟩
    subst e
    obtain ⟨sl, g0, hS1⟩ := bare1 s1
    refine ⟨fun cls d H2 => cls = .ref (cl k) ∧ d = none ∧ S H2, fun cls d σ' H2 hh => ?_, g0, hS1, fun H2 hS2 _ => ⟨rfl, rfl, hS2⟩⟩
    obtain ⟨rfl, rfl, hS2⟩ := hh
    refine ⟨rfl, T.exm k, fun e na hl => ⟨e, True.intro, ?_⟩⟩
    have hS3 := hSx H2 _ hS2 (Ex.new (o := .ext (ExcZ (.ref (cl k)) e)) na)
    refine done _ _ _ hS3 ?_
    have nO : e ∉ O := fun z => hSal H2 hS2 e z na
    rw [List.set_comm _ _ (Ne.symm hne)]
    exact Sl.setM0 (m := excM e (.ref (cl k))) rfl ⟨rfl, msk_upd nO⟩ (Sl.uns (by simpa using hl)) hpl
end
end PL

namespace PL
open PySem PySem.Spec PyProof.Rows L2 LamX
section
variable {X : Cx} {cl : Ek → Addr} {CS : Addr} {ρ : List SD} {b : Expr} {es : List Expr} {y z : Str} {p p1 p2 pos : Pos} {i : Nat} {e : Addr} {k : Ek}
/-- a kept exception is not None -/
theorem et_isNx {c : Value} (i : Nat) (hm : ρ[i]? = some (.mt (excM e c)) := by rfl) (hb : Ev X ρ b .none) (hi : X.N[i]? = some y := by rfl) (hv : Vis X.env.scope y := by first | exact Or.inl rfl | exact Or.inr (Or.inl rfl) | exact Or.inr (Or.inr rfl)) (h1 : (y == ("__debug__" : Str)) = false := by decide) (h2 : (y == ("__classdict__" : Str)) = false := by decide) :
    EvT X ρ (.Compare (.Name y p) [.Is] [b] pos) false :=
  pt_imp (pt_cmpR op_isN (pe_var hi hv h1 h2) hb (nomark _)) fun σ H Q ⟨F, O0, O1, s, q⟩ => by
    obtain ⟨v, g1, ⟨g2, _⟩, _⟩ := s.getM hm
    subst g2
    refine ⟨_, g1, F, O0, O1, s, fun w d H1 s1 e1 hd r => ?_⟩
    subst hd
    cases r
    exact ⟨rfl, false, rfl, q false H1 s1 e1 rfl⟩
/-- isinstance(e, C) of a kept exception, C an own class -/
theorem ev_isK (T : ErrT X.K cl CS) (q : Ek) (i : Nat) (hm2 : X.mg z = some (.ref (cl q))) (hg : Gl X "isinstance") (hm : X.mg "isinstance" = none) (hg2 : Gl X z) (hs : ρ[i]? = some (.mt (excM e (.ref (cl k)))) := by rfl) (hi : X.N[i]? = some y := by rfl)
    (hv : Vis X.env.scope y := by first | exact Or.inl rfl | exact Or.inr (Or.inl rfl) | exact Or.inr (Or.inr rfl)) (h1 : (y == ("__debug__" : Str)) = false := by decide) (h2 : (y == ("__classdict__" : Str)) = false := by decide) (h3 : (z == ("__debug__" : Str)) = false := by decide)
    (he : starEach [.Name y p1, .Name z p2] X.env = (false, eval (.Name y p1) X.env) :: starEach [.Name z p2] X.env := by rfl) (he2 : starEach [.Name z p2] X.env = (false, eval (.Name z p2) X.env) :: starEach [] X.env := by rfl) (hpl : (backTo pos (starEach [.Name z p2] X.env)).any (·.1) = false := by rfl) :
    Ev X ρ (.Call (.Name "isinstance" p) [.Name y p1, .Name z p2] [] pos) (.bool (decide (k = q))) :=
  pe_imp (pe_callB call_isK hg hm (by decide +kernel) (pa_cons (pe_var hi hv h1 h2) (pa_cons (pe_glob (v := .ref (cl q)) hg2 hm2 rfl h3) pa_nil he2) he) (by decide) (by decide) he hpl) fun σ H Q ⟨F, O0, O1, s, qq⟩ => by
    obtain ⟨v, g1, ⟨g2, g3⟩, _⟩ := s.getM hs
    subst g2
    exact ⟨_, g1, e, cl k, .ref (cl q), .ref (cl q), _, rfl, (msk_some g3).2, T.exc k, fun u r => r, T.kit k q, qq _ _ H s (Ex.refl _) rfl (.bl _)⟩
/-- .., ValueError -/
theorem ev_isKV (T : ErrT X.K cl CS) (i : Nat) (hm2 : X.mg "ValueError" = none) (hg : Gl X "isinstance") (hm : X.mg "isinstance" = none) (hg2 : Gl X "ValueError") (hs : ρ[i]? = some (.mt (excM e (.ref (cl k)))) := by rfl) (hi : X.N[i]? = some y := by rfl)
    (hv : Vis X.env.scope y := by first | exact Or.inl rfl | exact Or.inr (Or.inl rfl) | exact Or.inr (Or.inr rfl)) (h1 : (y == ("__debug__" : Str)) = false := by decide) (h2 : (y == ("__classdict__" : Str)) = false := by decide)
    (he : starEach [.Name y p1, .Name "ValueError" p2] X.env = (false, eval (.Name y p1) X.env) :: starEach [.Name "ValueError" p2] X.env := by rfl) (he2 : starEach [.Name "ValueError" p2] X.env = (false, eval (.Name "ValueError" p2) X.env) :: starEach [] X.env := by rfl) (hpl : (backTo pos (starEach [.Name "ValueError" p2] X.env)).any (·.1) = false := by rfl) :
    Ev X ρ (.Call (.Name "isinstance" p) [.Name y p1, .Name "ValueError" p2] [] pos) (.bool true) :=
  pe_imp (pe_callB call_isK hg hm (by decide +kernel) (pa_cons (pe_var hi hv h1 h2) (pa_cons (pe_bltn (v := .ty "ValueError") hg2 hm2 (by decide +kernel) rfl (by decide) (by decide)) pa_nil he2) he) (by decide) (by decide) he hpl) fun σ H Q ⟨F, O0, O1, s, qq⟩ => by
    obtain ⟨v, g1, ⟨g2, g3⟩, _⟩ := s.getM hs
    subst g2
    exact ⟨_, g1, e, cl k, .ty "ValueError", .type "ValueError", _, rfl, (msk_some g3).2, T.exc k, fun u r => r, T.kitV k, qq _ _ H s (Ex.refl _) rfl (.bl _)⟩
end

/-! ## dicts of texts and booleans -/
abbrev kvB (bs : List (Str × Bool)) : List (Key × V) := bs.map fun kb => (Sum.inr kb.1, V.bl kb.2)
theorem mergeK_app : ∀ (more kvs : List (Key × V)), ((kvs ++ more).map (·.1)).Nodup → mergeK kvs more = kvs ++ more
  | [], kvs, _ => by show kvs = _; rw [List.append_nil]
  | p :: r, kvs, h => by
    have hn : valV kvs p.1 = none := by
      unfold valV
      rw [Option.map_eq_none_iff, List.find?_eq_none]
      intro q hq
      rw [decide_eq_true_iff]
      intro e
      rw [List.map_append] at h
      have h2 := (List.nodup_append.mp h).2.2
      exact h2 q.1 (List.mem_map.mpr ⟨q, hq, rfl⟩) p.1 (by simp) e
    show mergeK (putK kvs p.1 p.2) r = _
    rw [putK_new p.2 hn]
    have e : kvs ++ [(p.1, p.2)] ++ r = kvs ++ p :: r := by simp
    rw [mergeK_app r _ (by rw [e]; exact h), e]
theorem valV_kvB {bs : List (Str × Bool)} (nd : (bs.map (·.1)).Nodup) {kb : Str × Bool} (h : kb ∈ bs) : valV (kvB bs) (Sum.inr kb.1) = some (V.bl kb.2) := by
  induction bs with
  | nil => cases h
  | cons c bs ih =>
    rw [List.map_cons, List.nodup_cons] at nd
    rcases List.mem_cons.mp h with e | e
    · subst e
      exact valV_pos rfl
    · show valV ((Sum.inr c.1, V.bl c.2) :: kvB bs) _ = _
      rw [valV_neg (fun z => nd.1 (List.mem_map.mpr ⟨kb, e, (Sum.inr.inj z).symm⟩))]
      exact ih nd.2 e
/-- the pairs of a display -/
abbrev EvPs (X : Cx) (pos : Pos) (ρ : List SD) (keys : List (Option Expr)) (values : List Expr) (bs : List (Str × Bool)) : Prop := PPs X pos keys values (bs.map fun kb => (tC (.str kb.1), tP ρ (Eq (.bool kb.2))))
theorem ep_nil {X : Cx} {pos : Pos} {ρ : List SD} : EvPs X pos ρ [] [] [] := pps_nil
theorem ep_cons {X : Cx} {pos p : Pos} {ρ : List SD} {j} {x : Str} {b : Bool} {v : Expr} {ks : List (Option Expr)} {vs : List Expr} {bs : List (Str × Bool)} (hv : Ev X ρ v (.bool b)) (hr : EvPs X pos ρ ks vs bs) :
    EvPs X pos ρ (some (.Constant (.str x) j p) :: ks) (v :: vs) ((x, b) :: bs) := pps_cons pe_str hv hr
theorem pairs_run {ρ : List SD} : ∀ (bs : List (Str × Bool)) (σ : Sg) (H : Hp) (Q : List (V × V) → Hp → Prop), (∃ F O0 O1, SA F O0 O1 ρ σ H ∧ ∀ H', SA F O0 O1 ρ σ H' → Ex (msk (O1 ++ O0) H) (msk (O1 ++ O0) H') → Q (bs.map fun kb => (V.str kb.1, V.bl kb.2)) H') →
    tPairs (bs.map fun kb => (tC (.str kb.1), tP ρ (Eq (.bool kb.2)))) σ H Q
  | [], σ, H, Q, ⟨F, O0, O1, s, q⟩ => q H s (Ex.refl _)
  | kb :: bs, σ, H, Q, ⟨F, O0, O1, s, q⟩ => by
    refine ⟨F, O0, O1, s, fun v d H1 s1 e1 hd r => ?_⟩
    subst hd
    cases r
    exact pairs_run bs σ H1 _ ⟨F, O0, O1, s1, fun H' s' e' => q H' s' (e1.trans e')⟩
theorem kvB_pairs (bs : List (Str × Bool)) : (kvB bs).map (fun kv => (kV kv.1, kv.2)) = bs.map fun kb => (V.str kb.1, V.bl kb.2) := by
  rw [List.map_map]; rfl
/-- a masked thing that the frame tells of is written -/
theorem SA.updO {F H : Hp} {O0 O1 : List Addr} {ρ : List SD} {σ : Sg} {a : Addr} {o o' : HO} (s : SA (upd F a o) (a :: O0) O1 ρ σ H) : SA (upd F a o') (a :: O0) O1 ρ σ (upd H a o') := by
  have na : a ∉ O1 := fun z => (s.new a z).2 List.mem_cons_self
  refine ⟨fun b u h => ?_, s.sl.mono (fun b u h => ?_) fun b hb => upd_ne fun z => na (by rw [← z]; exact hb), fun b hb => ⟨?_, (s.new b hb).2⟩, fun b hb => ?_⟩
  · by_cases c : b = a
    · rw [c, upd_same] at h ⊢; exact h
    · rw [upd_ne c] at h ⊢
      exact s.fr b u (by rw [upd_ne c]; exact h)
  · obtain ⟨z1, z2⟩ := msk_some h
    rw [msk_out z1, upd_ne fun z => z1 (by rw [z]; exact List.mem_append_right _ List.mem_cons_self)]
    exact z2
  · have c : b ≠ a := fun z => na (by rw [← z]; exact hb)
    have h := (s.new b hb).1
    rw [upd_ne c] at h ⊢
    exact h
  · by_cases c : b = a
    · rw [c, upd_same]; exact fun z => nomatch z
    · rw [upd_ne c]; exact s.al0 b hb
/-- a new thing, masked, told by the frame -/
theorem SA.newO {F H : Hp} {O0 O1 : List Addr} {ρ : List SD} {σ : Sg} {a : Addr} {o : HO} (s : SA F O0 O1 ρ σ H) (na : H a = none) : SA (upd F a o) (a :: O0) O1 ρ σ (upd H a o) ∧ Ex (msk (O1 ++ O0) H) (msk (O1 ++ a :: O0) (upd H a o)) := by
  have nO : a ∉ O1 ++ O0 := s.al.out na
  have em : Ex (msk (O1 ++ O0) H) (msk (O1 ++ a :: O0) (upd H a o)) := fun b u h => by
    obtain ⟨q1, q2⟩ := msk_some h
    have nb : b ≠ a := ne_of_none q2 na
    rw [msk_out fun z => ?_, upd_ne nb]
    · exact q2
    · rcases List.mem_append.mp z with z | z
      · exact q1 (List.mem_append_left _ z)
      · rcases List.mem_cons.mp z with z | z
        · exact nb z
        · exact q1 (List.mem_append_right _ z)
  refine ⟨⟨fun b u h => ?_, s.sl.mono em fun b hb => upd_ne fun z => nO (by rw [← z]; exact List.mem_append_left _ hb), fun b hb => ⟨?_, fun z => ?_⟩, fun b hb => ?_⟩, em⟩
  · by_cases c : b = a
    · rw [c, upd_same] at h ⊢; exact h
    · rw [upd_ne c] at h ⊢
      exact s.fr b u h
  · rw [upd_ne fun z => nO (by rw [← z]; exact List.mem_append_left _ hb)]
    exact (s.new b hb).1
  · rcases List.mem_cons.mp z with z | z
    · exact nO (by rw [← z]; exact List.mem_append_left _ hb)
    · exact (s.new b hb).2 z
  · rcases List.mem_cons.mp hb with z | z
    · rw [z, upd_same]; exact fun z => nomatch z
    · exact s.al0.ex (Ex.new na) b z
theorem mem_mid {O1 O0 : List Addr} {a : Addr} : a ∈ O1 ++ a :: O0 := List.mem_append_right _ List.mem_cons_self
/-- a display that makes a dict known to nobody else -/
def tDct (ρ : List SD) (kvs : List (Key × V)) : TE := fun σ H Q => ∃ F O0 O1, SA F O0 O1 ρ σ H ∧
  ∀ p H', SA (upd F p (.dK kvs)) (p :: O0) O1 ρ σ H' → F p = none → p ∉ O1 ++ O0 → Q (.ref p) H'
theorem pe_dct {X : Cx} {pos : Pos} {ρ : List SD} {keys : List (Option Expr)} {values : List Expr} {bs : List (Str × Bool)} (h : EvPs X pos ρ keys values bs) (nd : ((kvB bs).map (·.1)).Nodup) (hl : bs.length ≤ 15) (hall : keys.all (·.isSome) = true) (hk : keys.length = values.length) (h0 : keys ≠ []) (h15 : keys.length ≤ 15) :
    PE X (.Dict keys values pos) (tDct ρ (kvB bs)) :=
  pe_imp (pe_disp h hall hk h0 h15) fun σ H Q ⟨F, O0, O1, s, q⟩ p hp => by
    have hF : F p = none := by
      cases w : F p with
      | none => rfl
      | some o => rw [s.fr p o w] at hp; cases hp
    have nO : p ∉ O1 ++ O0 := s.al.out hp
    obtain ⟨s1, _⟩ := s.newO (o := .dK []) hp
    refine pairs_run bs σ _ _ ⟨upd F p (.dK []), p :: O0, O1, s1, fun H2 s2 _ => ⟨s2.fr p _ upd_same, kvB bs, (kvB_pairs bs).symm, by rw [List.length_map]; exact hl, ?_⟩⟩
    rw [mergeK_app (kvB bs) [] (by rw [List.nil_append]; exact nd), List.nil_append]
    exact q p _ s2.updO hF nO
/-- statements while the slot i holds a dict of the def's own -/
def tSD (ρ : List SD) (i : Nat) (kvs : List (Key × V)) (P : Po) : TS := fun D σ H => ∃ F O0 O1 a, SA (upd F a (.dK kvs)) (a :: O0) O1 ρ σ H ∧ F a = none ∧ a ∉ O1 ++ O0 ∧ σ[i]? = some (some (.ref a)) ∧
  (∀ ρ' O1' σ' H', P.nx ρ' → SA F O0 O1' ρ' σ' H' → D.nx σ' H') ∧
  (∀ v d ρ' O1' σ' H', P.rt d ρ' → SA F O0 O1' ρ' σ' H' → Rp (msk (O1' ++ O0) H') v d → D.rt v H') ∧
  (∀ ρ' O1' σ' H', P.bk ρ' → SA F O0 O1' ρ' σ' H' → D.bk σ' H') ∧
  (∀ ρ' O1' σ' H', P.ct ρ' → SA F O0 O1' ρ' σ' H' → D.ct σ' H')
abbrev HDs (X : Cx) (sts : List Stmt) (ρ : List SD) (i : Nat) (kvs : List (Key × V)) (P : Po) : Prop := PSs X sts (tSD ρ i kvs P)
section
variable {X : Cx} {ρ : List SD} {P : Po} {rest : List Stmt} {e : Expr} {x : Str} {i : Nat} {bs bs' : List (Str × Bool)} {p pos pos' apos cpos epos dpos : Pos} {keys : List (Option Expr)} {values : List Expr}
theorem hd_new (i : Nat) (h : EvPs X dpos ρ keys values bs) (k : HDs X rest ρ i (kvB bs) P) (hN : X.N.Nodup) (hu : ρ[i]? = some .un := by rfl) (nd : ((kvB bs).map (·.1)).Nodup := by simp only [List.map_cons, List.map_nil, List.cons_append, List.nil_append]; decide +kernel) (hl : bs.length ≤ 15 := by exact Nat.le_of_ble_eq_true rfl) (hall : keys.all (·.isSome) = true := by rfl) (hk : keys.length = values.length := by rfl) (h0 : keys ≠ [] := by exact fun z => nomatch z) (h15 : keys.length ≤ 15 := by decide)
    (hi : X.N[i]? = some x := by rfl) (hx : Loc X.env.scope x := by first | exact Or.inl rfl | exact Or.inr rfl) (hs : swapsWith (.Dict keys values dpos) (some (.Name x pos')) pos.line X.env = pure false := by rfl)
    (hf : X.fn x = true ∨ X.env.scope.names.lookup x = some .local := by first | exact .inl rfl | exact .inr rfl | assumption) : HSs X (.Assign [.Name x pos'] (.Dict keys values dpos) pos :: rest) ρ P := by
  refine pss_imp (pss_cons (ps_set hN hi hx (pe_dct h nd hl hall hk h0 h15) hs hf) k) fun D σ H ⟨F, O0, O1, s, a, b, k, t⟩ => ⟨F, O0, O1, s, fun q H' s' hF nO => ?_⟩
  have hp : plainAt ρ i = true := by unfold plainAt; rw [hu]; rfl
  have e : ρ.set i .un = ρ := by
    apply List.ext_getElem?
    intro j
    by_cases c : i = j
    · subst c
      obtain ⟨hl, _⟩ := List.getElem?_eq_some_iff.mp hu
      rw [List.getElem?_set_self hl, hu]
    · rw [List.getElem?_set_ne c]
  have s2 := s'.drop (i := i) (x := some (.ref q)) hp
  rw [e] at s2
  have hlen : i < σ.length := by
    rw [s.sl.len]
    exact (List.getElem?_eq_some_iff.mp hu).1
  exact ⟨F, O0, O1, q, s2, hF, nO, by rw [List.getElem?_set_self hlen], a, b, k, t⟩
theorem hd_upd (h : EvPs X dpos ρ keys values bs') (k : HDs X rest ρ i (kvB (bs ++ bs')) P) (nd : ((kvB (bs ++ bs')).map (·.1)).Nodup := by simp only [List.map_cons, List.map_nil, List.cons_append, List.nil_append]; decide +kernel) (nd' : ((kvB bs').map (·.1)).Nodup := by simp only [List.map_cons, List.map_nil, List.cons_append, List.nil_append]; decide +kernel) (hl : bs'.length ≤ 15 := by exact Nat.le_of_ble_eq_true rfl) (hl2 : bs.length ≤ 15 := by exact Nat.le_of_ble_eq_true rfl) (hall : keys.all (·.isSome) = true := by rfl) (hk : keys.length = values.length := by rfl) (h0 : keys ≠ [] := by exact fun z => nomatch z) (h15 : keys.length ≤ 15 := by decide)
    (hi : X.N[i]? = some x := by rfl) (hv : Vis X.env.scope x := by first | exact Or.inl rfl | exact Or.inr (Or.inl rfl) | exact Or.inr (Or.inr rfl)) (h1 : (x == ("__debug__" : Str)) = false := by decide) (h2 : (x == ("__classdict__" : Str)) = false := by decide)
    (m : M1 X (.Name x p) "update" apos (.Dict keys values dpos) cpos := by exact ⟨rfl, rfl, rfl, rfl⟩) (hs : swapsWith (.Call (.Attribute (.Name x p) "update" apos) [.Dict keys values dpos] [] cpos) none epos.line X.env = pure false := by rfl) :
    HDs X (.Expr (.Call (.Attribute (.Name x p) "update" apos) [.Dict keys values dpos] [] cpos) epos :: rest) ρ i (kvB bs) P := by
  refine pss_imp (pss_cons (ps_expr (pe_dupd (pe_var hi hv h1 h2) (pe_dct h nd' hl hall hk h0 h15) m) hs) k) fun D σ H ⟨F, O0, O1, a, s, hF, nO, hσ, c1, c2, c3, c4⟩ => ?_
  refine ⟨.ref a, hσ, a, rfl, .inl ⟨_, .inl (s.fr a _ upd_same)⟩, upd F a (.dK (kvB bs)), a :: O0, O1, s, fun q H' s' hF' nO' => ?_⟩
  have ne : a ≠ q := fun z => by rw [z, upd_same] at hF'; cases hF'
  refine ⟨q, kvB bs, kvB bs', rfl, ne, ?_, s'.fr q _ upd_same, ?_, ?_⟩
  · refine s'.fr a _ ?_
    rw [upd_ne ne, upd_same]
  · rw [List.length_map, List.length_map]
    have := le_line (n := bs.length + bs'.length) (by show _ ≤ 4096; omega)
    exact this
  · have em : mergeK (kvB bs) (kvB bs') = kvB (bs ++ bs') := by
      rw [mergeK_app _ _ (by rw [← List.map_append]; exact nd), ← List.map_append]
    rw [em]
    -- the other dict is forgotten
    have s3 : SA (upd F a (.dK (kvB bs))) (a :: O0) O1 ρ σ H' := (s'.frame (F := upd F a (.dK (kvB bs))) fun b u hb => by
      rw [upd_ne fun z => by rw [z, hF'] at hb; cases hb]; exact hb).unmask
    exact ⟨F, O0, O1, a, s3.updO, hF, nO, hσ, c1, c2, c3, c4⟩
theorem hd_lock (k : ∀ a od, HSs X rest (ρ.set i (.mt (dctZ a od (kvB bs)))) P) (hp : plainAt ρ i = true := by rfl) : HDs X rest ρ i (kvB bs) P := by
  refine ⟨fun pins s σ H D I ⟨F, O0, O1, a, sa, hF, nO, hσ, c1, c2, c3, c4⟩ => ?_⟩
  obtain ⟨od, I2⟩ := I.lock (sa.fr a _ upd_same) True.intro
  have s2 : SA (upd F a (.frz od (.dK (kvB bs)))) (a :: O0) O1 ρ σ (upd H a (.frz od (.dK (kvB bs)))) := sa.updO
  have s3 : SA F O0 O1 ρ σ (upd H a (.frz od (.dK (kvB bs)))) := (s2.frame (F := F) fun b u hb => by
    rw [upd_ne fun z => by rw [z, hF] at hb; cases hb]; exact hb).unmask
  have s4 : SA F O0 O1 (ρ.set i (.mt (dctZ a od (kvB bs)))) σ (upd H a (.frz od (.dK (kvB bs)))) := by
    refine ⟨s3.fr, ?_, s3.new, s3.al0⟩
    have q := Sl.setM0 (m := dctZ a od (kvB bs)) (v := .ref a) rfl ⟨rfl, msk_upd nO⟩ s3.sl hp
    have e : σ.set i (some (.ref a)) = σ := by
      apply List.ext_getElem?
      intro j
      by_cases c : i = j
      · subst c
        obtain ⟨hl, _⟩ := List.getElem?_eq_some_iff.mp hσ
        rw [List.getElem?_set_self hl, hσ]
      · rw [List.getElem?_set_ne c]
    rw [e] at q
    exact q
  exact (k a od).run pins s σ _ D I2 ⟨F, O0, O1, s4, c1, c2, c3, c4⟩
end
/-! ## a walk over such a dict, its items -/
theorem wk_keys {Fz : Hp} {a : Addr} {od : Obj} {bs : List (Str × Bool)} (h : Fz a = some (.frz od (.dK (kvB bs)))) (hk : ∀ kb ∈ bs, kb.1.length ≤ big) : Wk Fz (Itk a od (kvB bs)) (bs.map fun kb => .str kb.1) := fun i H2 e => by
  have h2 := e _ _ h
  refine ⟨fun d hd => ?_, fun hl => ⟨h2, by rw [List.length_map] at hl ⊢; exact hl⟩⟩
  rw [List.getElem?_map] at hd
  cases q : bs[i]? with
  | none => rw [q] at hd; cases hd
  | some kb =>
    rw [q] at hd
    cases hd
    have hi : i < bs.length := (List.getElem?_eq_some_iff.mp q).1
    refine ⟨⟨h2, by rw [List.length_map]; exact hi⟩, fun x H3 y => ?_⟩
    obtain ⟨rfl, k, v, e1, rfl⟩ := y
    rw [List.getElem?_map, q] at e1
    cases e1
    exact ⟨Ex.refl _, fun O al n => .str kb.1 (hk kb (List.mem_of_getElem? q))⟩
section
variable {X : Cx} {ρ : List SD} {tg e : Expr} {x : Str} {i : Nat} {a : Addr} {od : Obj} {bs : List (Str × Bool)} {p pos : Pos} {n : Nat}
theorem ei_keys (i : Nat) (hs : ρ[i]? = some (.mt (dctZ a od (kvB bs))) := by rfl) (hl : bs.length ≤ big := by exact Nat.le_of_ble_eq_true rfl) (hk : ∀ kb ∈ bs, kb.1.length ≤ big) (hi : X.N[i]? = some x := by rfl) (hv : Vis X.env.scope x := by first | exact Or.inl rfl | exact Or.inr (Or.inl rfl) | exact Or.inr (Or.inr rfl))
    (h1 : (x == ("__debug__" : Str)) = false := by decide) (h2 : (x == ("__classdict__" : Str)) = false := by decide) : EvI X ρ tg (.Name x p) (bs.map fun kb => .str kb.1) :=
  pi_imp (pi_keys (pe_var hi hv h1 h2)) fun σ H R ⟨F, O0, O1, s, k⟩ => by
    obtain ⟨v, g1, ⟨g2, g3⟩, _⟩ := s.getM hs
    subst g2
    exact ⟨_, g1, a, od, rfl, .inl ⟨kvB bs, (msk_some g3).2, k _ _ H s (Ex.refl _) rfl (by rw [List.length_map]; exact hl) (wk_keys g3 hk)⟩⟩
theorem ev_dgetB (hr : Room n X.A) (i : Nat) (kb : Str × Bool) (hb : kb ∈ bs) (nd : (bs.map (·.1)).Nodup) (he : Ev X ρ e (.str kb.1)) (hs : ρ[i]? = some (.mt (dctZ a od (kvB bs))) := by rfl) (hns : NoSl e := by exact fun _ _ => rfl) (hi : X.N[i]? = some x := by rfl) (hv : Vis X.env.scope x := by first | exact Or.inl rfl | exact Or.inr (Or.inl rfl) | exact Or.inr (Or.inr rfl))
    (h1 : (x == ("__debug__" : Str)) = false := by decide) (h2 : (x == ("__classdict__" : Str)) = false := by decide) : Ev X ρ (.Subscript (.Name x p) e pos) (.bool kb.2) :=
  pe_imp (pe_dget (hu_of hr) (pe_var hi hv h1 h2) he hns) fun σ H Q ⟨F, O0, O1, s, q⟩ => by
    obtain ⟨v, g1, ⟨g2, g3⟩, _⟩ := s.getM hs
    subst g2
    refine ⟨_, g1, F, O0, O1, s, fun v d H1 s1 e1 hd r => ?_⟩
    subst hd
    cases r
    obtain ⟨v', w1, ⟨w2, w3⟩, _⟩ := s1.getM hs
    exact ⟨a, .bl kb.2, rfl, .inl ⟨kvB bs, Sum.inr kb.1, .inr ⟨od, (msk_some w3).2⟩, rfl, (valV_kvB nd hb).symm⟩, q _ _ H1 s1 e1 rfl (.bl _)⟩
end
end PL

namespace PL
open PySem PySem.Spec PyProof.Rows L2 LamX
/-- the errors of the package, by their names -/
structure ErrM (K : PySem.W.Frag) (mg : Str → Option Value) (cl : Ek → Addr) (CS : Addr) : Prop where
  t : ErrT K cl CS
  me : ∀ k, mg k.cls = some (.ref (cl k))
  ms : mg "LoanError" = some (.ref CS)
  mv : mg "ValueError" = none
theorem errM_of {K : PySem.W.Frag} {h : Heap} {mg : Str → Option Value} {cl : Ek → Addr} {CS : Addr} (X : K.In h) (G : h.Ns mainGlobals mg) (T : ErrT K cl CS) : ErrM K mg cl CS :=
  ⟨T, fun k => PySem.W.mg_of X G (T.e k).ns, PySem.W.mg_of X G T.b.ns, PySem.W.mg_none_of X G T.b.ve⟩
/-- addresses by kind -/
def clOf (c0 c1 c2 c3 c4 c5 c6 c7 c8 : Addr) : Ek → Addr
  | .plan => c0
  | .wishes => c1
  | .number => c2
  | .text => c3
  | .bad => c4
  | .unlike => c5
  | .already => c6
  | .notyet => c7
  | .undo => c8
/-- what the def that tells makes of the classes -/
abbrev marksOf (k : Ek) : List (Str × Bool) := [("plan", decide (k = .plan)), ("wishes", decide (k = .wishes)), ("number", decide (k = .number)), ("text", decide (k = .text)), ("bad", decide (k = .bad)), ("unlike", decide (k = .unlike)), ("already", decide (k = .already)), ("not yet", decide (k = .notyet)), ("undo", decide (k = .undo))]
/-! ## the law, with tables of code objects -/
def spLawT (K : PySem.W.Frag) (T : List (Addr × Str)) : Sp := fun vs H Q _ => ∃ (a : Addr) (ns : List Int), vs = [.ref a] ∧ (∀ p ∈ T, H p.1 = some (.tbl #[])) ∧ SqL K H a (ns.map V.int) ∧ ns.length ≤ 63 ∧ ∀ H', Q (.bl true) H'
theorem pss_unseen {X : Cx} {sts : List Stmt} {t : TS} {i : Nat} {n : Str} {x : Option V} (h : PSs X sts t) (hN : X.N.Nodup) (hi : X.N[i]? = some n) (hv : ¬ Vis X.env.scope n) : PSs X sts (fun D σ H => t D (σ.set i x) H) :=
  ⟨fun pins s σ H D I q => h.run pins s (σ.set i x) H D (I.unseen hN hi hv) q⟩
theorem Sl.app {Hm H : Hp} {ρ2 : List SD} {σ2 : Sg} {as2 : List Addr} (h2 : Sl Hm H ρ2 σ2 as2) : ∀ {n : Nat} {σ : Sg}, σ.length = n → Sl Hm H (List.replicate n .un ++ ρ2) (σ ++ σ2) as2
  | 0, [], _ => h2
  | 0, _ :: _, h => by simp at h
  | n + 1, [], h => by simp at h
  | n + 1, x :: σ, h => .un (Sl.app h2 (by simpa using h))
theorem law_mkT {P : Program} {w : World} {K : PySem.W.Frag} {mg : Str → Option Value} {base : Heap} {x : Str} {st : Stmt} {f : Addr} {N : List Str} {p n : Str} {k m : Nat} {oc kV doc pm cdv ct : Value} {an od : Option Addr} {osl : Array (Option Value)} {T : List (Addr × Str)}
    (lk : K.lookup f = some ⟨oc, od, .func (PySem.W.fnOf x x (defArgs st) (defBody st) (defScope st) .none kV doc pm an cdv ct), osl⟩) (hcd : PySem.W.codeIn K cdv x = true) (S : FnScope N [p] (defScope st)) (hm : N.length = m + 2) (hn : N[m + 1]? = some n) (hv0 : (defScope st).names.lookup n = none)
    (body : ∀ sa ns, ns.length ≤ 63 → ∀ (A : Around) (outer : List Env) (s : Shared) (H : Hp) (E : XK), Room k (A.deeper (envOfC x (defScope st) s.heap.objs.size f cdv)) →
      HSs (cxOf CX0 P w K mg base N x (defScope st) f cdv A outer s H E).nox (defBody st) (.mt (scr K sa ns) :: (List.replicate m SD.un ++ [.mt (tabM T)])) { nx := fun _ => False, rt := fun d _ => d = .bool true }) : FnOk P w K mg base CX0 (k + 1) f (PySem.W.fnOf x x (defArgs st) (defBody st) (defScope st) .none kV doc pm an cdv ct) [p] (spLawT K T) := by
  have hv : ¬ Vis (defScope st) n := fun h => by rcases h with h | h | h <;> (rw [hv0] at h; cases h)
  refine fn_of lk hcd S (fun vs H Q E ⟨a, ns, e, _⟩ => by rw [e]; rfl) (fun A outer s H vs Q E hr ⟨a, ns, e, hT, hS, hl, kk⟩ => ?_)
  have h1 := pss_unseen (i := m + 1) (x := some V.non) (body a ns hl A outer s H E hr) S.nd hn hv
  refine ⟨_, h1.nox, msk (T.map (·.1)) H, [], T.map (·.1), ⟨Ex.unmsk, ?_, fun b hb => ⟨msk_in hb, fun z => by cases z⟩, fun b hb => (by cases hb)⟩, fun _ _ _ _ z => z.elim, ?_, fun _ _ _ _ z => z.elim, fun _ _ _ _ z => z.elim⟩
  · rw [e, List.append_nil]
    have est : (L2.start N [V.ref a]).set (m + 1) (some V.non) = some (V.ref a) :: (List.replicate m none ++ [some V.non]) := by
      unfold L2.start
      rw [hm]
      show (some (V.ref a) :: List.replicate (m + 2 - 1) none).set (m + 1) (some V.non) = _
      rw [List.set_cons_succ]
      congr 1
      rw [show m + 2 - 1 = m + 1 from rfl, List.replicate_succ', List.set_append_right _ _ (by simp)]
      simp
    rw [est]
    have hST : SqL K (msk (T.map (·.1)) H) a (ns.map V.int) := by
      rcases hS with (h | ⟨o, h⟩) | h
      · refine .inl (.inl ?_)
        rw [msk_out fun z => ?_]
        · exact h
        · obtain ⟨q, hq, eq⟩ := List.mem_map.mp z
          have := hT q hq
          rw [eq, h] at this
          cases this
      · refine .inl (.inr ⟨o, ?_⟩)
        rw [msk_out fun z => ?_]
        · exact h
        · obtain ⟨q, hq, eq⟩ := List.mem_map.mp z
          have := hT q hq
          rw [eq, h] at this
          cases this
      · exact .inr h
    have tl : Sl (msk (T.map (·.1)) H) H [.mt (tabM T)] [some V.non] ((tabM T).fp ++ []) := Sl.mt (m := tabM T) ⟨rfl, fun q hq => ⟨#[], hT q hq, True.intro, fun pos cv hc => by
      have z : codeAmong pos [] = some cv := hc
      simp [codeAmong] at z⟩⟩ (fun a ha => by simp) .nil
    rw [List.append_nil] at tl
    exact Sl.mt (m := scr K a ns) ⟨rfl, hST, hl⟩ (fun a ha => by cases ha) (Sl.app tl (by simp))
  · intro v d ρ' O1' σ' H' hd s' r'
    subst hd
    cases r'
    exact kk H'
end PL
namespace LamX
open PySem PySem.Spec PyProof.Rows L2
def AllTab (q : Program) (mg : Str → Option Value) (h : Heap) : Prop := ∀ d ∈ recsOf q, ∃ (a : Addr) (o : Obj) (fd : FuncData) (c P : Addr), mg d.name = some (.ref a) ∧ h.get? a = some o ∧ o.data = .func fd ∧ fd.code = .ref c ∧ PySem.W.CodeHd h c P ∧
  h.get? P = some { cls := .none, data := .fields #[] } ∧ ∃ oc vs, h.get? c = some oc ∧ oc.data = .fields vs ∧ vs[11]? = some (.ref P)
theorem walk_ofAll {l : PySem.W.OpenLaw} {n k : Nat} {q : Program} {loose : List Str} {XP : (Str → Option Value) → Heap → Prop} {YP : World → Heap → Prop} {d : DefRec} {K : Params → PySem.W.Frag} {CX : World → CXT} {x : Str}
    (hn : l.most = some n) (hn2 : n ≤ sizeLine) (hdf : d.params.defaults = []) (hr : Room k callerA) (hY : ∀ (w : World) (h : Heap), YP w h → (K w.params).In h)
    (F : ∀ (w : World) (mg : Str → Option Value) (fa : Addr) (h : Heap), YP w h → (K w.params).In h → h.Ns mainGlobals mg → mg d.name = some (.ref fa) → AllTab q mg h → LawAtS l w (K w.params) (CX w) k n x mg fa h)
    (hCX : ∀ (w : World) (H : Hp) (s : Shared) (e : Value) (s' : Shared), CX w [] H s (fun _ _ _ => False) e s' → False) :
    PySem.W.WalkO q loose XP YP l.row.toRowW d [] (fun f vs => PySem.call f vs) := by
  refine Att.attach_callB hn hdf fun w s₀ s₁ mg mb fa o pm cd doc a vs ns G Y ho hd hcd hmg hobj hints hlen hbits hg => ?_
  have KX := hY w _ Y
  have all : AllTab q mg s₁.heap := fun dL hm => by
    obtain ⟨a', o', fd', c', P', h1, h2, h3, h4, h5, h6⟩ := G.T.tab dL hm
    obtain ⟨⟨oc, vc, e1, e2, e3, e4⟩, hP⟩ := id h6
    exact ⟨a', o', fd', c', P', h1, h2, h3, h4, PySem.W.CodeHd.of h5 h6, hP, oc, vc, e1, e3, e4⟩
  obtain ⟨fd, cs, sp, hT, nT, C, hb, hsp, hF⟩ := F w mg fa _ Y KX G.T.g hmg all
  exact law_callTs KX G.T.g G.T.b G.T.builtins G.T.nolimit hg hT nT C G.T.bmain hobj hints (Nat.le_trans hlen hn2) hr hF hb (fun H hH hS => hsp H a ns hlen hbits hH hS) fun H e s' => hCX w H s₁ e s'
/-- the table of the def x -/
theorem tab_at {q : Program} {mg : Str → Option Value} {h : Heap} {K : PySem.W.Frag} {x : Str} {f c P : Addr} {oc : Value} {od dd : Option Addr} {fd : FuncData} {sl csl : Array (Option Value)} {e : Value} {vs : Array Value} (X : K.In h) (AT : AllTab q mg h) (hx : ((recsOf q).any fun d => d.name == x) = true)
    (hm : mg x = some (.ref f)) (lk : K.lookup f = some ⟨oc, od, .func fd, sl⟩) (hc : fd.code = .ref c) (kc : K.lookup c = some ⟨e, dd, .fields vs, csl⟩) (kP : vs[11]? = some (.ref P)) (nP : PySem.W.typeIn K (.ref P) = none) :
    PySem.W.CodeHd h c P ∧ h.get? P = some { cls := .none, data := .fields #[] } ∧ K.lookup P = none := by
  obtain ⟨d, hd, hn⟩ := List.any_eq_true.mp hx
  have hn' : d.name = x := beq_iff_eq.mp hn
  obtain ⟨a', o', fd', c', P', h1, h2, h3, h4, h5, h6, o2, v2, h7, h8, h9⟩ := AT d hd
  rw [hn', hm] at h1
  cases h1
  have g1 := X _ _ lk
  rw [g1] at h2
  cases h2
  cases h3
  rw [hc] at h4
  cases h4
  have g2 := X _ _ kc
  rw [g2] at h7
  cases h7
  cases h8
  rw [kP] at h9
  cases h9
  refine ⟨h5, h6, ?_⟩
  have z : (K.lookup P).map (·.cls) = none := nP
  exact Option.map_eq_none_iff.mp z
end LamX

namespace PL
open PySem PySem.Spec PyProof.Rows L2 LamX
/-! ## defs as values -/
def FnX (P : Program) (w : World) (K : PySem.W.Frag) (mg : Str → Option Value) (base : Heap) (k : Nat) (f : Addr) (cl : Ek → Addr) (C : CtX) : Prop := ∃ fd ps, FnOk P w K mg base (L2.CX P w) k f fd ps (spX cl C) ∧ PySem.W.keepIn K (.ref f) = true ∧ Binds K fd ps []
theorem DefX.fn {P : Program} {w : World} {K : PySem.W.Frag} {mg : Str → Option Value} {base : Heap} {k : Nat} {x : Str} {ps : List Str} {cl : Ek → Addr} {C : CtX} (F : DefX P w K mg base k x ps cl C) : ∃ f, mg x = some (.ref f) ∧ FnX P w K mg base k f cl C := by
  obtain ⟨f, fd, F1, F2, F3, F4⟩ := F
  exact ⟨f, F2, fd, ps, F1, F3, F4.bd⟩
theorem FnX.mono {P : Program} {w : World} {K : PySem.W.Frag} {mg : Str → Option Value} {base : Heap} {j k : Nat} {f : Addr} {cl : Ek → Addr} {C : CtX} (F : FnX P w K mg base j f cl C) (l : j ≤ k) : FnX P w K mg base k f cl C := by
  obtain ⟨fd, ps, F1, F3, F4⟩ := F
  exact ⟨fd, ps, F1.mono l, F3, F4⟩
section
variable {X : Cx} {cl : Ek → Addr} {ρ : List SD} {P : Po} {E : XK} {e : Expr} {es : List Expr} {x : Str} {p pos : Pos} {k n : Nat} {f : Addr} {C : CtX} {rest body : List Stmt}
/-- a call of a name that holds such a def -/
theorem ex_errL (F : FnX X.prog X.w X.K X.mg X.base k f cl C) (i : Nat) (a : C.A) (hr : Room n X.A) (px : Passes (L2.CX X.prog X.w) X E) (ha : EvA X ρ (e :: es) (C.enc a)) (hp : C.pre a) (hs : ρ[i]? = some (.mt (fnM f)) := by rfl) (hkn : k ≤ n := by decide)
    (hi : X.N[i]? = some x := by rfl) (hv : Vis X.env.scope x := by first | exact Or.inl rfl | exact Or.inr (Or.inl rfl) | exact Or.inr (Or.inr rfl)) (h1 : (x == ("__debug__" : Str)) = false := by decide) (h2 : (x == ("__classdict__" : Str)) = false := by decide)
    (he : starEach (e :: es) X.env = (false, eval e X.env) :: starEach es X.env := by rfl) (hpl : (backTo pos (starEach es X.env)).any (·.1) = false := by rfl) : EvX X cl ρ (.Call (.Name x p) (e :: es) [] pos) (.err (C.kind a)) E := by
  obtain ⟨fd, ps, F1, F3, F4⟩ := F
  refine pe_imp (pe_callL (i := i) F1 (hr.mono hkn) hi hv F3 F4 .nil px ha h1 h2 he hpl) fun σ H Q ⟨F, O0, O1, s, q⟩ => ?_
  obtain ⟨v, g1, g2, _⟩ := s.getM hs
  have g2' : v = .ref f := g2
  subst g2'
  refine ⟨g1, F, O0, O1, s, fun vs ds H1 s1 e1 hd r1 => ?_⟩
  show spX cl C (vs ++ []) H1 _ E
  rw [List.append_nil]
  subst hd
  exact ⟨O1 ++ O0, a, hp, s1.al, r1, fun H' e' => q H' (s1.ex e') (e1.trans e'.msk)⟩
/-- a slot that holds such a thing is forgotten -/
theorem Sl.dropM {Hm H : Hp} {m : Mt} (h0 : m.fp = []) : ∀ {ρ : List SD} {σ : Sg} {as : List Addr} {i : Nat}, Sl Hm H ρ σ as → ρ[i]? = some (.mt m) → Sl Hm H (ρ.set i .un) σ as
  | [], _, _, i, _, h => by simp at h
  | s :: ρ, σ, as, 0, h, e => by
    have e' : s = .mt m := Option.some.inj e
    subst e'
    cases h with
    | mt a1 a2 h1 =>
      rw [h0, List.nil_append]
      exact .un h1
  | s :: ρ, σ, as, i + 1, h, e => by
    have e' : ρ[i]? = some (.mt m) := by simpa using e
    cases h with
    | un h1 => exact .un (Sl.dropM h0 h1 e')
    | dat r h1 => exact .dat r (Sl.dropM h0 h1 e')
    | own a1 a2 a3 a4 h1 => exact .own a1 a2 a3 a4 (Sl.dropM h0 h1 e')
    | mt a1 a2 h1 => exact .mt a1 a2 (Sl.dropM h0 h1 e')
theorem hs_dropM (i : Nat) (h : HSs X rest (ρ.set i .un) P) (hs : ρ[i]? = some (.mt (fnM f)) := by rfl) : HSs X rest ρ P :=
  pss_imp h fun D σ H ⟨F, O0, O1, s, q⟩ => ⟨F, O0, O1, ⟨s.fr, s.sl.dropM (m := fnM f) rfl hs, s.new, s.al0⟩, q⟩
/-- names of defs, one after the other -/
abbrev EvFs (X : Cx) (es : List Expr) (fs : List Addr) : Prop := PA X es (fun σ H Q => Q (fs.map V.ref) H)
theorem ef_nil : EvFs X [] [] := pa_imp pa_nil fun _ _ _ h => h
theorem ef_cons {fs : List Addr} (hg : Gl X x) (hm : X.mg x = some (.ref f)) (hr : EvFs X es fs) (hdb : (x == ("__debug__" : Str)) = false := by decide) (he : starEach (.Name x p :: es) X.env = (false, eval (.Name x p) X.env) :: starEach es X.env := by rfl) : EvFs X (.Name x p :: es) (f :: fs) :=
  pa_imp (pa_cons (pe_glob (v := .ref f) hg hm rfl hdb) hr he) fun _ _ _ h => h
/-- for x in (f, g, ..): -/
theorem hs_forF {fs : List Addr} {fpos tpos : Pos} {x1} (j : Nat) (Iv : Nat → List SD → Prop) (hp : PassesOwn (model X.prog X.w) X.A X.env X.xe) (hc : X.calm = true) (hN : X.N.Nodup) (hA : EvFs X es fs) (hfl : fs.length ≤ big) (h0 : Iv 0 ρ)
    (hb : ∀ (i : Nat) f ρ1, fs[i]? = some f → Iv i ρ1 → plainAt ρ1 j = true ∧ HSs X body (ρ1.set j (.mt (fnM f))) { nx := Iv (i + 1), rt := P.rt, bk := fun _ => False, ct := Iv (i + 1) })
    (hd : ∀ ρ1, Iv fs.length ρ1 → HSs X rest ρ1 P) (hi : X.N[j]? = some x := by rfl) (hx : Loc X.env.scope x := by first | exact Or.inl rfl | exact Or.inr rfl) (hs : ∀ y, foldedSetIterable (.Tuple es x1 tpos) X.env y = pure y := by intro _; rfl)
    (hf : X.fn x = true ∨ X.env.scope.names.lookup x = some .local := by first | exact .inl rfl | exact .inr rfl | assumption) : HSs X (.For (.Name x p) (.Tuple es x1 tpos) body [] fpos :: rest) ρ P := by
  refine hs_cons (M := fun r => Iv fs.length r) ?_ fun r z => hd r z
  have gA : PG X (.Name x p) (gName j) := pg_name hN hi hx hf
  have bA : PSs X body (fun D σ H => ∃ a : List SD × Po, HSs X body a.1 a.2 ∧ tS a.1 a.2 D σ H) := pss_any fun a ha => ha
  refine ps_imp (ps_for hp hc (pi_tup (pe_tup hA)) gA bA hs) fun D σ H ⟨F, O0, O1, s, nx, rt, bk, ct⟩ => ?_
  refine ⟨by rw [List.length_map]; exact le_line hfl, fun a ha => ?_⟩
  have s1 := s.ex (Ex.new (o := .tup (fs.map V.ref)) ha)
  have ta : (upd H a (.tup (fs.map V.ref))) a = some (.tup (fs.map V.ref)) := upd_same
  generalize hH1 : upd H a (.tup (fs.map V.ref)) = H1 at s1 ta
  refine ⟨a, rfl, ⟨_, SqT.of ta⟩, ?_⟩
  have nO : a ∉ O1 := fun z => s.al a (List.mem_append_left _ z) ha
  have eF : Ex F (msk O1 H1) := fun b o h => by
    rw [msk_out fun z => by rw [(s1.new b z).1] at h; cases h]
    exact s1.fr b o h
  have tF : msk O1 H1 a = some (.tup (fs.map V.ref)) := by rw [msk_out nO]; exact ta
  refine ⟨fun i m σ H => m = fs.length - i ∧ i ≤ fs.length ∧ ∃ ρ1 O, Iv i ρ1 ∧ SA (msk O1 H1) O0 O ρ1 σ H, ⟨fs.length, by simp, Nat.zero_le _, ρ, O1, h0, ⟨Ex.unmsk, s1.sl, fun a ha => ⟨msk_in ha, (s1.new a ha).2⟩, s1.al0⟩⟩, ?_⟩
  rintro i m σ2 H2 ⟨rfl, hi2, ρ1, O, iv, s2⟩
  have t2 := s2.fr _ _ tF
  by_cases hlt : i < fs.length
  · have hdi : fs[i]? = some fs[i] := List.getElem?_eq_getElem hlt
    obtain ⟨hpl, hB⟩ := hb i _ ρ1 hdi iv
    refine .inr ⟨⟨_, .ref fs[i], SqT.of t2, by rw [List.getElem?_map, hdi]; rfl⟩, fun σ' H' => ∃ ρ1 O, Iv (i + 1) ρ1 ∧ SA (msk O1 H1) O0 O ρ1 σ' H', fun σ' H' hN' => ⟨fs.length - (i + 1), by omega, rfl, hlt, hN'⟩, fun y H3 yy => ?_⟩
    obtain ⟨rfl, yy⟩ := yy
    have ey := yy _ (SqT.of t2)
    rw [List.getElem?_map, hdi] at ey
    cases ey
    refine ⟨(_, _), hB, msk O1 H1, O0, O, ⟨s2.fr, Sl.setM0 (m := fnM fs[i]) rfl rfl s2.sl hpl, s2.new, s2.al0⟩, fun ρ' O' σ' H' q s' => ⟨ρ', O', q, s'⟩, fun v d ρ' O' σ' H' q s' r => rt v d ρ' O' σ' H' q (s'.frame eF) r, fun ρ' O' σ' H' q s' => q.elim, fun ρ' O' σ' H' q s' => ⟨ρ', O', q, s'⟩⟩
  · have ei : i = fs.length := by omega
    subst ei
    exact .inl ⟨⟨_, SqT.of t2, by rw [List.length_map]; exact Nat.le_refl _⟩, nx ρ1 O σ2 H2 iv (s2.frame eF)⟩
end
end PL

namespace PL
open PySem PySem.Spec PyProof.Rows L2 LamX
/-! ## defs that make lambdas themselves: the tables stand at places of the caller -/
def spS (T : List (Addr × Str)) (C : Ct) : Sp := fun vs H Q _ => ∃ (O0 : List Addr) (a : C.A), C.pre a ∧ Al O0 H ∧ (∀ p ∈ T, p.1 ∈ O0) ∧ (tabM T).P (msk O0 H) H .non ∧ RpA (msk O0 H) vs (C.enc a) ∧
  ∀ v d H', Ex (msk (tabM T).fp H) H' → (tabM T).P (msk O0 H') H' .non → C.res a d → Rp (msk O0 H') v d → Q v H'
def DefS (P : Program) (w : World) (K : PySem.W.Frag) (mg : Str → Option Value) (base : Heap) (k : Nat) (x : Str) (ps : List Str) (T : List (Addr × Str)) (C : Ct) : Prop :=
  ∃ f fd, FnOk P w K mg base CX0 k f fd ps (spS T C) ∧ mg x = some (.ref f) ∧ PySem.W.keepIn K (.ref f) = true ∧ Kw fd ps
theorem Sl.startT {Hm H : Hp} {ρ2 : List SD} {σ2 : Sg} {as2 : List Addr} (h2 : Sl Hm H ρ2 σ2 as2) : ∀ {vs : List V} {ds : List PyData} {m : Nat}, RpA Hm vs ds → Sl Hm H (ds.map SD.dat ++ (List.replicate m SD.un ++ ρ2)) (vs.map some ++ (List.replicate m none ++ σ2)) as2
  | _, [], m, h => by
    cases h
    exact Sl.app h2 (by simp)
  | _, d :: ds, m, h => by
    cases h with
    | cons r1 r2 => exact .dat r1 (Sl.startT h2 r2)
section
variable {P : Program} {w : World} {K : PySem.W.Frag} {mg : Str → Option Value} {base : Heap}
theorem defS_mk {x n : Str} {st : Stmt} {f : Addr} {N ps : List Str} {k m : Nat} {oc kV doc pm cdv ct : Value} {an od : Option Addr} {osl : Array (Option Value)} {T : List (Addr × Str)} {C : Ct}
    (A : DefAt K mg x st ps f (PySem.W.fnOf x x (defArgs st) (defBody st) (defScope st) .none kV doc pm an cdv ct)) (lk : K.lookup f = some ⟨oc, od, .func (PySem.W.fnOf x x (defArgs st) (defBody st) (defScope st) .none kV doc pm an cdv ct), osl⟩) (hcd : PySem.W.codeIn K cdv x = true)
    (S : FnScope N ps (defScope st)) (hl : ∀ a, (C.enc a).length = ps.length) (hm : N.length = ps.length + m + 1) (hn : N[ps.length + m]? = some n) (hv0 : (defScope st).names.lookup n = none)
    (body : ∀ a, C.pre a → ∀ (A : Around) (outer : List Env) (s : Shared) (H : Hp) (E : XK), Room k (A.deeper (envOfC x (defScope st) s.heap.objs.size f cdv)) →
      HSs (cxOf CX0 P w K mg base N x (defScope st) f cdv A outer s H E).nox (defBody st) ((C.enc a).map SD.dat ++ (List.replicate m SD.un ++ [.mt (tabM T)])) { nx := fun ρ => C.res a .none ∧ ρ[ps.length + m]? = some (.mt (tabM T)), rt := fun d ρ => C.res a d ∧ ρ[ps.length + m]? = some (.mt (tabM T)) }) : DefS P w K mg base (k + 1) x ps T C := by
  have hv : ¬ Vis (defScope st) n := fun h => by rcases h with h | h | h <;> (rw [hv0] at h; cases h)
  refine ⟨f, _, ?_, A.at_, A.fn.kp, A.kw⟩
  refine fn_of lk hcd S (fun vs H Q E ⟨O, ds, hp, al, _, _, r, kt⟩ => by rw [r.len]; exact hl ds) (fun A outer s H vs Q E hr ⟨O, a, hp, al, hTO, hT, r, kt⟩ => ?_)
  have h1 := pss_unseen (i := ps.length + m) (x := some V.non) (body a hp A outer s H E hr) S.nd hn hv
  have hfp : ∀ b ∈ (tabM T).fp, b ∈ O := fun b hb => by
    obtain ⟨p, hp, rfl⟩ := List.mem_map.mp hb
    exact hTO p hp
  have ec : ∀ H, msk ((tabM T).fp ++ O.filter fun b => decide (b ∉ (tabM T).fp)) H = msk O H := msk_congr fun b => by
    rw [List.mem_append, List.mem_filter, decide_eq_true_iff]
    constructor
    · rintro (z | z)
      · exact hfp b z
      · exact z.1
    · intro z
      by_cases c : b ∈ (tabM T).fp
      · exact .inl c
      · exact .inr ⟨z, c⟩
  refine ⟨_, h1.nox, msk (tabM T).fp H, O.filter fun b => decide (b ∉ (tabM T).fp), (tabM T).fp, ⟨Ex.unmsk, ?_, fun b hb => ⟨msk_in hb, fun z => ?_⟩, fun b hb => al b (List.mem_filter.mp hb).1⟩, ?_, ?_, fun _ _ _ _ z => z.elim, fun _ _ _ _ z => z.elim⟩
  · rw [ec]
    have hvl : vs.length = ps.length := by rw [r.len]; exact hl a
    have est : (L2.start N vs).set (ps.length + m) (some V.non) = vs.map some ++ (List.replicate m none ++ [some V.non]) := by
      unfold L2.start
      rw [hm, hvl, List.set_append_right _ _ (by rw [List.length_map, hvl]; omega)]
      congr 1
      rw [List.length_map, hvl, show ps.length + m - ps.length = m by omega, show ps.length + m + 1 - ps.length = m + 1 by omega, List.replicate_succ', List.set_append_right _ _ (by simp)]
      simp
    rw [est]
    have tl : Sl (msk O H) H [.mt (tabM T)] [some V.non] ((tabM T).fp ++ []) := Sl.mt (m := tabM T) hT (fun a ha => by simp) .nil
    rw [List.append_nil] at tl
    exact Sl.startT tl r
  · exact (of_decide_eq_true (List.mem_filter.mp z).2) hb
  · intro ρ' O1' σ' H' ⟨q1, q2⟩ s'
    obtain ⟨v, g1, g2, g3⟩ := s'.getM q2
    refine kt .non .none H' s'.fr ?_ q1 .non
    refine ⟨rfl, fun p hp => ?_⟩
    obtain ⟨ps', w1, w2, w3⟩ := g2.2 p hp
    refine ⟨ps', w1, w2, fun pos cv hc => ?_⟩
    obtain ⟨c, z1, z2⟩ := w3 pos cv hc
    refine ⟨c, z1, ?_⟩
    obtain ⟨y1, y2⟩ := msk_some z2
    rw [← ec, msk_out fun z => ?_]
    · exact y2
    · rcases List.mem_append.mp z with z | z
      · exact y1 (List.mem_append_left _ (g3 _ z))
      · exact y1 (List.mem_append_right _ z)
  · intro v d ρ' O1' σ' H' ⟨q1, q2⟩ s' r'
    obtain ⟨v', g1, g2, g3⟩ := s'.getM q2
    have sub : ∀ b ∈ O, b ∈ O1' ++ O.filter fun b => decide (b ∉ (tabM T).fp) := fun b hb => by
      by_cases c : b ∈ (tabM T).fp
      · exact List.mem_append_left _ (g3 b c)
      · exact List.mem_append_right _ (List.mem_filter.mpr ⟨hb, decide_eq_true c⟩)
    refine kt v d H' s'.fr ⟨rfl, fun p hp => ?_⟩ q1 (r'.mono (Ex.mskSub sub))
    obtain ⟨ps', w1, w2, w3⟩ := g2.2 p hp
    refine ⟨ps', w1, w2, fun pos cv hc => ?_⟩
    obtain ⟨c, z1, z2⟩ := w3 pos cv hc
    exact ⟨c, z1, Ex.mskSub sub _ _ z2⟩
section
variable {X : Cx} {ρ : List SD} {e : Expr} {es : List Expr} {x : Str} {p pos : Pos} {k n : Nat} {ps : List Str} {C : Ct} {D : PyData → Prop} {d : PyData} {T : List (Addr × Str)}
theorem spS_run {F H1 : Hp} {O0 O1 : List Addr} {σ : Sg} {Q : VK} {vs : List V} (s1 : SA F O0 O1 ρ σ H1) (j : Nat) (hj : ρ[j]? = some (.mt (tabM T))) (a : C.A) (hp : C.pre a) (r1 : RpA (msk (O1 ++ O0) H1) vs (C.enc a))
    (q : ∀ v d H', SA F O0 O1 ρ σ H' → Ex (msk (O1 ++ O0) H1) (msk (O1 ++ O0) H') → C.res a d → Rp (msk (O1 ++ O0) H') v d → Q v H') : spS T C vs H1 Q E0 := by
  obtain ⟨v, g1, g2, g3⟩ := s1.getM hj
  have gv : v = .non := g2.1
  subst gv
  refine ⟨O1 ++ O0, a, hp, s1.al, fun p hp => List.mem_append_left _ (g3 _ (List.mem_map.mpr ⟨p, hp, rfl⟩)), g2, r1, fun v d H' ex hP hd rp => ?_⟩
  obtain ⟨s2, em⟩ := s1.updMt hj ex fun v hv => by
    rw [g1] at hv
    cases hv
    exact hP
  exact q v d H' s2 em hd rp
theorem ev_callS (F : DefS X.prog X.w X.K X.mg X.base k x ps T C) (j : Nat) (a : C.A) (hr : Room n X.A) (hg : Gl X x) (ha : EvA X ρ (e :: es) (C.enc a)) (hp : C.pre a) (hj : ρ[j]? = some (.mt (tabM T)) := by rfl) (hG : C.res a = Eq d := by rfl) (hkn : k ≤ n := by decide)
    (hdb : (x == ("__debug__" : Str)) = false := by decide) (he : starEach (e :: es) X.env = (false, eval e X.env) :: starEach es X.env := by rfl) (hpl : (backTo pos (starEach es X.env)).any (·.1) = false := by rfl) : Ev X ρ (.Call (.Name x p) (e :: es) [] pos) d := by
  obtain ⟨f, fd, F1, F2, F3, F4⟩ := F
  refine pe_imp (pe_call F1 (hr.mono hkn) hg F2 F3 F4.bd .nil pass0 ha hdb he hpl) fun σ H Q ⟨F, O0, O1, s, q⟩ => ⟨F, O0, O1, s, fun vs ds H1 s1 e1 hd r1 => ?_⟩
  show spS T C (vs ++ []) H1 Q E0
  rw [List.append_nil]
  subst hd
  exact spS_run s1 j hj a hp r1 fun v d' H' s2 em hd rp => q v d' H' s2 (e1.trans em) (by rw [hG] at hd; exact hd) rp
theorem ev_callS0 (F : DefS X.prog X.w X.K X.mg X.base k x ps T C) (j : Nat) (a : C.A) (hr : Room n X.A) (hg : Gl X x) (hp : C.pre a) (hj : ρ[j]? = some (.mt (tabM T)) := by rfl) (he : C.enc a = [] := by rfl) (hG : C.res a = Eq d := by rfl) (hkn : k ≤ n := by decide)
    (hdb : (x == ("__debug__" : Str)) = false := by decide) : Ev X ρ (.Call (.Name x p) [] [] pos) d := by
  obtain ⟨f, fd, F1, F2, F3, F4⟩ := F
  refine pe_imp (pe_call0 F1 (hr.mono hkn) hg F2 F3 F4.bd .nil pass0 hdb) fun σ H Q ⟨F, O0, O1, s, q⟩ => ?_
  show spS T C ([] ++ []) H Q E0
  exact spS_run s j hj a hp (by rw [he]; exact .nil) fun v d' H' s2 em hd rp => q v d' H' s2 em (by rw [hG] at hd; exact hd) rp
/-- a list, so many times -/
theorem ev_repL {a b : Expr} {ds : List PyData} {k : Nat} (ha : Ev X ρ a (.list ds)) (hb : Ev X ρ b (.int k)) (hk : k ≤ 1000) (hl : ds.length ≤ 1000) (hz : (List.replicate k ds).flatten.length ≤ big) : Ev X ρ (.BinOp a .Mult b pos) (.list (List.replicate k ds).flatten) :=
  ev_bin op_rep ha hb fun O H x y Q al r1 r2 kt => by
    cases r1 with
    | lst g1 g2 g3 =>
      cases r2
      refine ⟨_, k, _, rfl, rfl, (msk_some g1).2, by omega, by omega, ?_, ?_⟩
      · rw [g3.len, Int.toNat_natCast]
        have h1 : ds.length * k ≤ 1000 * 1000 := Nat.mul_le_mul hl hk
        rw [sizeLine_eq]
        omega
      · rw [Int.toNat_natCast]
        exact kt.lst al rfl hz (rpA_rep g3 k)
end
end
end PL

namespace PL
open PySem PySem.Spec PyProof.Rows L2 LamX
/-- list + list, a new one -/
theorem ef_catL {X : Cx} {ρ : List SD} {a b : Expr} {xs ys : List PyData} {pos : Pos} (ha : Ev X ρ a (.list xs)) (hb : Ev X ρ b (.list ys)) (hl : xs.length + ys.length ≤ big) : EvF X ρ (.BinOp a .Add b pos) (Eq (xs ++ ys)) :=
  pe_imp (pe_op op_cat ha hb) fun σ H Q ⟨F, O0, O1, s, q⟩ => ⟨F, O0, O1, s, fun x da H1 s1 e1 ha r1 => ⟨F, O0, O1, s1, fun y db H2 s2 e2 hb r2 => by
    subst ha; subst hb
    cases r1 with
    | lst a1 a2 a3 =>
      cases r2 with
      | lst b1 b2 b3 =>
        rename_i p1 xs1 p2 xs2
        have a1' := e2 _ _ a1
        refine ⟨p1, p2, xs1, xs2, rfl, rfl, (msk_some a1').2, (msk_some b1).2, ?_, fun p hp => ?_⟩
        · rw [a3.len, b3.len]; exact le_line hl
        · have hF : F p = none := by
            cases w : F p with
            | none => rfl
            | some o => rw [s2.fr p o w] at hp; cases hp
          have nO : p ∉ O1 ++ O0 := s2.al.out hp
          obtain ⟨s3, em⟩ := s2.newO (o := .lst (xs1 ++ xs2)) hp
          have s4 : SA F (p :: O0) O1 ρ σ (upd H2 p (.lst (xs1 ++ xs2))) := s3.frame fun b u hb => by
            rw [upd_ne fun z => by rw [z, hF] at hb; cases hb]; exact hb
          exact q p (xs1 ++ xs2) (xs ++ ys) _ s4 hF nO upd_same (((a3.mono e2).append b3).mono em) (by rw [List.length_append]; exact hl) rfl ((e1.trans e2).trans em)⟩⟩
end PL

namespace Mus
open PySem PySem.Spec PyProof.Rows L2 PL
/-! ## contracts of errors -/
def x_check_plan : CtX := ⟨PyData, fun d => [d], fun d => isPlanD d = false, fun _ => .plan⟩
def x_clashes : CtX := ⟨PyData, fun d => [d], fun d => isPlanD d = false, fun _ => .plan⟩
def x_is_clash : CtX := ⟨PyData × PyData, fun a => [a.1, a.2], fun a => isPlanD a.1 = false, fun _ => .plan⟩
theorem shp_err (k : Ek) : SeqAt.shaped (Out.err k).d = true := by cases k <;> decide +kernel
theorem eqv_err (k q : Ek) : PyData.eqv (Out.err k).d (Out.err q).d = decide (k = q) := by cases k <;> cases q <;> decide +kernel
def x_best : CtX := x_clashes
/-- what is no plan, or no wishes of it -/
def badSome (d e : PyData) (k : Ek) : Prop := (k = .plan ∧ isPlanD d = false) ∨ (k = .wishes ∧ ∃ p : Plan, p.Ok ∧ d = eP p ∧ areSome p e = false)
def x_some : CtX := ⟨PyData × PyData × Ek, fun a => [a.1, a.2.1], fun a => badSome a.1 a.2.1 a.2.2, fun a => a.2.2⟩
def x_check_number : CtX := ⟨PyData × Int × Int, fun a => [a.1, .int a.2.1, .int a.2.2], fun a => isBetween a.1 a.2.1 a.2.2 = false, fun _ => .number⟩
/-- .. or no number -/
def badNum (hi : Plan → Int) (d e n : PyData) (k : Ek) : Prop := badSome d e k ∨ (k = .number ∧ ∃ (p : Plan) (s : List Int), p.Ok ∧ SomeOk p s ∧ d = eP p ∧ e = eT s ∧ isBetween n 0 (hi p) = false)
def x_least_limit : CtX := ⟨PyData × PyData × PyData × Ek, fun a => [a.1, a.2.1, a.2.2.1], fun a => badNum (fun p => (p.houses.length : Int) - 1) a.1 a.2.1 a.2.2.1 a.2.2.2, fun a => a.2.2.2⟩
def x_least_light : CtX := ⟨PyData × PyData × PyData × Ek, fun a => [a.1, a.2.1, a.2.2.1], fun a => badNum (fun p => (p.objects.length : Int) - 1) a.1 a.2.1 a.2.2.1 a.2.2.2, fun a => a.2.2.2⟩
/-- no plan, or no wish of it -/
def badWish (d n : PyData) (k : Ek) : Prop := (k = .plan ∧ isPlanD d = false) ∨ (k = .number ∧ ∃ p : Plan, p.Ok ∧ d = eP p ∧ isBetween n 0 ((p.wishes.length : Int) - 1) = false)
def x_wish : CtX := ⟨PyData × PyData × Ek, fun a => [a.1, a.2.1], fun a => badWish a.1 a.2.1 a.2.2, fun a => a.2.2⟩
def x_check_good : CtX := ⟨Plan × List Int, fun a => [eP a.1, eT a.2], fun a => a.1.Ok ∧ SomeOk a.1 a.2 ∧ good a.1 a.2 = false, fun _ => .bad⟩
def badGood (d e : PyData) (k : Ek) : Prop := badSome d e k ∨ (k = .bad ∧ ∃ (p : Plan) (s : List Int), p.Ok ∧ SomeOk p s ∧ d = eP p ∧ e = eT s ∧ good p s = false)
def x_can_add : CtX := ⟨PyData × PyData × Ek, fun a => [a.1, a.2.1], fun a => badGood a.1 a.2.1 a.2.2, fun a => a.2.2⟩
/-! ## k05 -/
def c_law_clash : Ct := ⟨Plan × List Int, fun a => [eP a.1, eT a.2], fun a => a.1.Ok ∧ SomeOk a.1 a.2, fun a => Eq (.bool (isClash a.1 a.2))⟩
theorem clashes_256 {p : Plan} (hp : p.Ok) : (clashesOf p).length ≤ 256 := Nat.le_trans (clashes_le hp) (Nat.pow_le_pow_right (n := 2) (by decide) hp.w8)
theorem lenLt_tot {a b : List Int} (h1 : lenLt a b = false) (h2 : lenLt b a = false) : a = b := by
  rw [lenLt_no] at h1 h2
  rcases h1 with h1 | ⟨h1, k1⟩
  · rcases h2 with h2 | ⟨h2, k2⟩ <;> omega
  · rcases h2 with h2 | ⟨h2, k2⟩
    · omega
    · exact List.le_antisymm (by rw [← List.not_lt]; exact k2) (by rw [← List.not_lt]; exact k1)
/-- the first of the sorted ones is the least -/
theorem head_sort (a : List Int) (l : List (List Int)) : ∃ m l', ((a :: l).mergeSort fun a b => !lenLt b a) = m :: l' ∧ headMin lenLt (a :: l) = some m := by
  have tr : ∀ a b c : List Int, (!lenLt b a) = true → (!lenLt c b) = true → (!lenLt c a) = true := fun a b c h1 h2 => by
    simp only [Bool.not_eq_true'] at h1 h2 ⊢
    exact lenLt_trans c b a h2 h1
  have tot : ∀ a b : List Int, ((!lenLt b a) || (!lenLt a b)) = true := fun a b => by
    cases h : lenLt b a with
    | false => rfl
    | true => rw [lenLt_asym b a h]; rfl
  have hs := List.pairwise_mergeSort (le := fun a b : List Int => !lenLt b a) tr tot (a :: l)
  have hp := List.mergeSort_perm (a :: l) (fun a b : List Int => !lenLt b a)
  cases q : (a :: l).mergeSort fun a b => !lenLt b a with
  | nil => rw [q] at hp; exact absurd hp.length_eq (by simp)
  | cons m l' =>
    refine ⟨m, l', rfl, ?_⟩
    rw [q] at hs hp
    cases hm : headMin lenLt (a :: l) with
    | none => rw [headMin_none] at hm; cases hm
    | some m' =>
      have h1 := headMin_le lenLt_trans lenLt_asym lenLt_irr hm m (hp.mem_iff.mp List.mem_cons_self)
      have h2 : lenLt m' m = false := by
        have hm' := hp.mem_iff.mpr (headMin_some hm)
        rcases List.mem_cons.mp hm' with e | e
        · rw [e]; exact lenLt_irr m
        · have := (List.pairwise_cons.mp hs).1 m' e
          simpa using this
      rw [lenLt_tot h1 h2]
def odds05 (n : Nat) : List PyData := [.none, .list [.int 0, .int 1], .tuple [.int 1, .int 0], .tuple [.int 0, .int 0], .tuple [.int n], .str "0", .tuple [.bool true, .int 1], .int 0, .tuple [.int 0, .tuple [.int 1]]]
theorem odd05_not (p : Plan) {d : PyData} (h : d ∈ odds05 p.wishes.length) : areSome p d = false := by
  simp only [odds05, List.mem_cons, List.not_mem_nil, or_false] at h
  rcases h with h | h | h | h | h | h | h | h | h <;> subst h
  · rfl
  · rfl
  · simp [areSome, asc, toI]
  · simp [areSome, asc, toI]
  · simp only [areSome, List.all_cons, List.all_nil, isBetween_int, Bool.and_true]
    rw [Bool.and_eq_false_iff]
    left
    rw [Bool.and_eq_false_iff]
    right
    rw [decide_eq_false_iff_not]
    omega
  · rfl
  · simp [areSome, isBetween, PL.isInt, isBool]
  · rfl
  · simp [areSome, isBetween, PL.isInt, isBool]
/-! ## k01 -/
def c_law_odd : Ct := ⟨Unit, fun _ => [], fun _ => True, fun _ => Eq (.bool true)⟩
abbrev iT4 (a b c d : Int) : PyData := .tuple [.int a, .int b, .int c, .int d]
abbrev t3 (a b c : PyData) : PyData := .tuple [a, b, c]
abbrev t11 : PyData := .tuple [.int 1, .int 1]
abbrev it0 : PyData := iT4 0 1 0 1
def rows01 : List PyData := [iT4 0 0 0 1, iT4 2 0 0 1, iT4 1 1 0 1, iT4 1 0 2 1, iT4 1 0 0 61, iT4 1 0 (-1) 1, .tuple [.int 1, .int 0, .int 0], .none, .list [.int 1, .int 0, .int 0, .int 0]]
def odds01a : List PyData := [t3 (.tuple []) (.tuple [it0]) (.tuple []), t3 (.tuple [.int 1, .int 1, .int 1, .int 1, .int 1]) (.tuple [it0]) (.tuple []), t3 (.tuple [.int 41]) (.tuple [it0]) (.tuple []), t3 (.tuple [.int (-1)]) (.tuple [it0]) (.tuple []),
  t3 (.tuple [.bool true]) (.tuple [it0]) (.tuple []),
  t3 t11 (.tuple []) (.tuple []), t3 t11 (.tuple [it0, it0, it0, it0, it0]) (.tuple []), t3 t11 (.tuple [iT4 2 1 0 1]) (.tuple []), t3 t11 (.tuple [iT4 0 0 0 1]) (.tuple []),
  t3 t11 (.tuple [iT4 0 21 0 1]) (.tuple []), t3 t11 (.tuple [iT4 0 1 10 1]) (.tuple []), .none, .tuple [], t3 t11 (.tuple [iT4 0 1 0 0]) (.tuple []),
  t3 t11 (.tuple [iT4 0 1 0 41]) (.tuple []), t3 t11 (.tuple [.tuple [.int 0, .int 1, .int 0]]) (.tuple []), .tuple [t11, .tuple [it0]], .int 0, t3 t11 (.list [it0]) (.tuple [])]
def odds01 : List PyData := odds01a ++ rows01.map (fun r => t3 t11 (.tuple [it0]) (.tuple [r])) ++ [t3 t11 (.tuple [it0]) (.tuple (List.replicate 9 (iT4 1 0 0 0)))]
theorem odds01_not : ∀ d ∈ odds01, isPlanD d = false := by decide +kernel
def good01 : PyData := t3 (.tuple [.int 40, .int 0]) (.tuple (List.replicate 4 (iT4 0 20 9 40))) (.tuple (List.replicate 8 (iT4 1 3 0 60)))
theorem good01_is : isPlanD good01 = true := by decide +kernel
theorem good01_is' : isPlanD (t3 (.tuple [.int 0]) (.tuple [it0]) (.tuple [])) = true := by decide +kernel
theorem asc_00 (l : List Int) : asc (l ++ [0, 0]) = false := by
  cases h : asc (l ++ [0, 0]) with
  | false => rfl
  | true =>
    have := (List.pairwise_append.mp ((asc_iff _).mp h)).2.1
    simp at this
def oddS01 (n : Nat) (s : List Int) : List PyData := [.none, .list (s.map PyData.int), .tuple [.int n], .tuple [.int (-1)], .tuple (s.map PyData.int ++ (s.map PyData.int).drop ((s.map PyData.int).length - 1) ++ [.int 0, .int 0]), .tuple [.bool true], .str "0", .int 0, .tuple [.none]]
theorem oddS01_not (p : Plan) (s : List Int) {d : PyData} (h : d ∈ oddS01 p.wishes.length s) : areSome p d = false := by
  simp only [oddS01, List.mem_cons, List.not_mem_nil, or_false] at h
  rcases h with h | h | h | h | h | h | h | h | h <;> subst h
  · rfl
  · rfl
  · simp only [areSome, List.all_cons, List.all_nil, isBetween_int, Bool.and_true]
    rw [Bool.and_eq_false_iff]
    left
    rw [Bool.and_eq_false_iff]
    right
    rw [decide_eq_false_iff_not]
    omega
  · simp [areSome, isBetween_int]
  · simp only [areSome]
    rw [Bool.and_eq_false_iff]
    right
    rw [List.map_append]
    exact asc_00 _
  · simp [areSome, isBetween, PL.isInt, isBool]
  · rfl
  · rfl
  · simp [areSome, isBetween, PL.isInt, isBool]
/-! ## k17 -/
/-- what is no plan, or two plans of unlike wishes -/
def badTwo (d e : PyData) (k : Ek) : Prop := (k = .plan ∧ isPlanD d = false) ∨ ∃ p : Plan, p.Ok ∧ d = eP p ∧ ((k = .plan ∧ isPlanD e = false) ∨ (k = .unlike ∧ ∃ q : Plan, q.Ok ∧ e = eP q ∧ p.wishes ≠ q.wishes))
def x_two : CtX := ⟨PyData × PyData × Ek, fun a => [a.1, a.2.1], fun a => badTwo a.1 a.2.1 a.2.2, fun a => a.2.2⟩
def c_law_other : Ct := ⟨Plan, fun p => [eP p], fun p => p.Ok ∧ ∀ x ∈ p.houses, x ≤ 30, fun p d => ∃ q : Plan, d = eP q ∧ Two p q⟩
theorem against_nil {p : Plan} {u : List Int} (hp : p.Ok) (hu : SomeOk p u) : (against p u).isEmpty = good p u := by rw [against_eq hp hu, ← good_reasons hp hu, good_eq hp hu]
theorem subs_head : ∀ n, ∃ r, subs n = [] :: r
  | 0 => ⟨[], rfl⟩
  | n + 1 => by
    obtain ⟨r, hr⟩ := subs_head n
    exact ⟨_, by rw [subs, hr]; rfl⟩
theorem goods_head {p : Plan} (hp : p.Ok) : ∃ r, goodOnes p = [] :: r := by
  obtain ⟨r, hr⟩ : ∃ r, subs p.wishes.length = [] :: r := subs_head _
  unfold goodOnes
  rw [hr, List.filter_cons_of_pos (good_nil hp)]
  exact ⟨_, rfl⟩
theorem goods_srt {p : Plan} (hp : p.Ok) : Srt ((goodOnes p).map rowD) := by
  obtain ⟨r, hr⟩ := goods_head hp
  rw [hr]
  exact srt_rowsE r
theorem goods_same {p q : Plan} (h : Two p q) : decide (sortR (goodOnes p) = sortR (goodOnes q)) = decide (clashesOf p = clashesOf q) := by
  rw [Bool.eq_iff_iff, decide_eq_true_iff, decide_eq_true_iff, same_iff h]
  constructor
  · intro e s hs
    have m : s ∈ goodOnes p ↔ s ∈ goodOnes q := by rw [← sortR_mem, e, sortR_mem]
    rw [mem_good, mem_good] at m
    rw [Bool.eq_iff_iff]
    exact ⟨fun k => (m.mp ⟨hs, k⟩).2, fun k => (m.mpr ⟨h.some hs, k⟩).2⟩
  · intro a
    have : goodOnes p = goodOnes q := by
      unfold goodOnes
      rw [h.ws]
      exact List.filter_congr fun s hs => a s (subs_some.mp hs)
    rw [this]
theorem strict_nil (p q : Plan) : ((goodOnes p).filter fun r => decide (r ∉ goodOnes q)).isEmpty = stricter p q := by
  unfold stricter
  rw [Bool.eq_iff_iff, List.isEmpty_iff, List.filter_eq_nil_iff, List.all_eq_true]
  simp
def unlikeD (p : Plan) : PyData := .tuple [eT p.houses, .tuple (p.objects.map eO), .tuple (if p.wishes.isEmpty then [iT4 5 5 5 5] else (p.wishes.map eW).drop 1)]
def unlikeK (p : Plan) : Ek := if p.wishes.isEmpty then .plan else .unlike
theorem unlike_bad {p : Plan} (hp : p.Ok) : badTwo (eP p) (unlikeD p) (unlikeK p) := by
  refine .inr ⟨p, hp, rfl, ?_⟩
  cases hw : p.wishes with
  | nil =>
    refine .inl ⟨by unfold unlikeK; rw [hw]; rfl, ?_⟩
    have h4 := hp.h4
    have hb : isBetween (.int 5) 0 ((p.houses.length : Int) - 1) = false := by
      rw [isBetween_int, Bool.and_eq_false_iff]
      right
      rw [decide_eq_false_iff_not]
      omega
    unfold unlikeD
    rw [hw]
    simp only [List.isEmpty_nil, if_true, isPlanD, List.length_map, List.all_cons, List.all_nil, isWishD, hb, Bool.false_and, Bool.and_false]
  | cons w ws =>
    refine .inr ⟨by unfold unlikeK; rw [hw]; rfl, ⟨p.houses, p.objects, ws⟩, ⟨hp.h1, hp.h4, hp.hs, hp.o1, hp.o4, hp.os, ?_, fun v hv => ?_⟩, ?_, ?_⟩
    · have := hp.w8
      rw [hw] at this
      simp at this
      show ws.length ≤ 8
      omega
    · obtain ⟨a, b, c, d, e, f, g, i⟩ := hp.ws v (by rw [hw]; exact List.mem_cons_of_mem _ hv)
      exact ⟨a, b, c, d, e, f, g, i⟩
    · unfold unlikeD
      rw [hw]; rfl
    · intro e
      have := congrArg List.length e
      simp at this
end Mus

namespace PL
open PySem PySem.Spec PyProof.Rows L2 LamX
/-! ## contracts of errors: weaker ones, calls with some keywords -/
theorem spX_imp {cl : Ek → Addr} {C C' : CtX} (h : ∀ a, C'.pre a → ∃ b, C.enc b = C'.enc a ∧ C.pre b ∧ C.kind b = C'.kind a) (vs : List V) (H : Hp) (Q : VK) (E : XK) (q : spX cl C' vs H Q E) : spX cl C vs H Q E := by
  obtain ⟨O, a, hp, al, r, k⟩ := q
  obtain ⟨b, e1, e2, e3⟩ := h a hp
  exact ⟨O, b, e2, al, by rw [e1]; exact r, by rw [e3]; exact k⟩
theorem FnX.weak {P : Program} {w : World} {K : PySem.W.Frag} {mg : Str → Option Value} {base : Heap} {k : Nat} {f : Addr} {cl : Ek → Addr} {C C' : CtX} (F : FnX P w K mg base k f cl C) (h : ∀ a, C'.pre a → ∃ b, C.enc b = C'.enc a ∧ C.pre b ∧ C.kind b = C'.kind a) : FnX P w K mg base k f cl C' := by
  obtain ⟨fd, ps, F1, F3, F4⟩ := F
  exact ⟨fd, ps, F1.imp (spX_imp h), F3, F4⟩
theorem DefX.weak {P : Program} {w : World} {K : PySem.W.Frag} {mg : Str → Option Value} {base : Heap} {k : Nat} {x : Str} {ps : List Str} {cl : Ek → Addr} {C C' : CtX} (F : DefX P w K mg base k x ps cl C) (h : ∀ a, C'.pre a → ∃ b, C.enc b = C'.enc a ∧ C.pre b ∧ C.kind b = C'.kind a) : DefX P w K mg base k x ps cl C' := by
  obtain ⟨f, fd, F1, F2, F3, F4⟩ := F
  exact ⟨f, fd, F1.imp (spX_imp h), F2, F3, F4⟩
section
variable {X : Cx} {cl : Ek → Addr} {ρ : List SD} {E : XK} {e : Expr} {es : List Expr} {x : Str} {p pos : Pos} {k n : Nat} {ps : List Str} {C : CtX}
theorem ex_errM {d1 ds : List PyData} {kws : List Keyword} {q0 : Ek} (m : Nat) (F : DefX X.prog X.w X.K X.mg X.base k x ps cl C) (a : C.A) (hr : Room n X.A) (px : Passes (L2.CX X.prog X.w) X E) (hg : Gl X x) (ha1 : EvA X ρ (e :: es) d1) (ha : EvKN X ρ kws (Eq ds)) (hp : C.pre a) (hq : C.kind a = q0 := by rfl) (hea : d1 ++ ds = C.enc a := by rfl) (hm : d1.length = m := by rfl) (hps : ps ≠ [] := by decide) (hkn : k ≤ n := by decide)
    (hall : (backToKw pos (keywordEach kws X.env)).all (·.1.isSome) = true := by rfl) (hks : (backToKw pos (keywordEach kws X.env)).filterMap (·.1) = ps.drop m := by rfl)
    (hdb : (x == ("__debug__" : Str)) = false := by decide) (he : starEach (e :: es) X.env = (false, eval e X.env) :: starEach es X.env := by rfl) (hpl : ((backTo pos (starEach (e :: es) X.env)).any (·.1) || (backToKw pos (keywordEach kws X.env)).any (·.1.isNone)) = false := by rfl) : EvX X cl ρ (.Call (.Name x p) (e :: es) kws pos) (.err q0) E := by
  subst hq
  obtain ⟨f, fd, F1, F2, F3, F4⟩ := F
  refine pe_imp (pe_callK F1 (hr.mono hkn) hg F2 F3 (F4.kb hps m) px ha1 ha hall hks hdb he hpl) fun σ H Q ⟨F, O0, O1, s, q⟩ => ⟨F, O0, O1, s, fun us d1' H1 s1 e1 hd1 r1 => ⟨F, O0, O1, s1, fun vs ds' H2 s2 e2 hd r2 => ?_⟩⟩
  show spX cl C (kwG m us vs) H2 _ E
  subst hd1; subst hd
  unfold kwG
  rw [if_pos (r1.len.trans hm)]
  exact ⟨O1 ++ O0, a, hp, s2.al, by rw [← hea]; exact (r1.mono e2).append r2, fun H' e' => q H' (s2.ex e') ((e1.trans e2).trans e'.msk)⟩
theorem ex_errQ {q0 : Ek} (F : DefX X.prog X.w X.K X.mg X.base k x ps cl C) (a : C.A) (hr : Room n X.A) (px : Passes (L2.CX X.prog X.w) X E) (hg : Gl X x) (ha : EvA X ρ (e :: es) (C.enc a)) (hp : C.pre a) (hq : C.kind a = q0 := by rfl) (hkn : k ≤ n := by decide)
    (hdb : (x == ("__debug__" : Str)) = false := by decide) (he : starEach (e :: es) X.env = (false, eval e X.env) :: starEach es X.env := by rfl) (hpl : (backTo pos (starEach es X.env)).any (·.1) = false := by rfl) : EvX X cl ρ (.Call (.Name x p) (e :: es) [] pos) (.err q0) E := by
  subst hq
  exact ex_err F a hr px hg ha hp hkn hdb he hpl
theorem ex_errKQ {kws : List Keyword} {q0 : Ek} (F : DefX X.prog X.w X.K X.mg X.base k x ps cl C) (a : C.A) (hr : Room n X.A) (px : Passes (L2.CX X.prog X.w) X E) (hg : Gl X x) (ha : EvKN X ρ kws (Eq (C.enc a))) (hp : C.pre a) (hq : C.kind a = q0 := by rfl) (hps : ps ≠ [] := by decide) (hkn : k ≤ n := by decide)
    (hall : (backToKw pos (keywordEach kws X.env)).all (·.1.isSome) = true := by rfl) (hks : (backToKw pos (keywordEach kws X.env)).filterMap (·.1) = ps.drop 0 := by rfl)
    (hdb : (x == ("__debug__" : Str)) = false := by decide) (hpl : ((backTo pos (starEach [] X.env)).any (·.1) || (backToKw pos (keywordEach kws X.env)).any (·.1.isNone)) = false := by rfl) : EvX X cl ρ (.Call (.Name x p) [] kws pos) (.err q0) E := by
  subst hq
  exact ex_errK F a hr px hg ha hp hps hkn hall hks hdb hpl
end
theorem ev_callKM {X : Cx} {ρ : List SD} {e : Expr} {es : List Expr} {x : Str} {p pos : Pos} {k n : Nat} {ps : List Str} {C : Ct} {d : PyData} {d1 ds : List PyData} {kws : List Keyword} (m : Nat) (F : Def X.prog X.w X.K X.mg X.base k x ps C) (a : C.A) (hr : Room n X.A) (hg : Gl X x) (ha1 : EvA X ρ (e :: es) d1) (ha : EvKN X ρ kws (Eq ds)) (hp : C.pre a) (hea : d1 ++ ds = C.enc a := by rfl) (hm : d1.length = m := by rfl) (hG : C.res a = Eq d := by rfl) (hps : ps ≠ [] := by decide) (hkn : k ≤ n := by decide)
    (hall : (backToKw pos (keywordEach kws X.env)).all (·.1.isSome) = true := by rfl) (hks : (backToKw pos (keywordEach kws X.env)).filterMap (·.1) = ps.drop m := by rfl)
    (hdb : (x == ("__debug__" : Str)) = false := by decide) (he : starEach (e :: es) X.env = (false, eval e X.env) :: starEach es X.env := by rfl) (hpl : ((backTo pos (starEach (e :: es) X.env)).any (·.1) || (backToKw pos (keywordEach kws X.env)).any (·.1.isNone)) = false := by rfl) : Ev X ρ (.Call (.Name x p) (e :: es) kws pos) d :=
  evn_callK m F hr hg ha1 ha (fun z1 z2 h1 h2 => by subst h1; subst h2; exact ⟨hm, a, hea, hp, fun d' h => by rw [hG] at h; exact h⟩) hps hkn hall hks hdb he hpl
end PL

namespace Mus
open PySem PySem.Spec PyProof.Rows L2 PL
/-! ## k14 -/
def c_law_first : Ct := ⟨Plan × List Int × Int × Int × Int × Int, fun a => [eP a.1, eT a.2.1, .tuple [.int a.2.2.1, .int a.2.2.2.1, .int a.2.2.2.2.1], .int a.2.2.2.2.2],
  fun a => a.1.Ok ∧ a.1.wishes.length ≤ 7 ∧ SomeOk a.1 a.2.1 ∧ LoanOk a.1 a.2.2.1 a.2.2.2.1 a.2.2.2.2.1 ∧ (0 ≤ a.2.2.2.2.2 ∧ a.2.2.2.2.2 ≤ 60), fun a => Eq (eOpt PyData.int (firstWeek a.1 a.2.1 a.2.2.1 a.2.2.2.1 a.2.2.2.2.1 a.2.2.2.2.2))⟩
def c_law_bounds : Ct := c_law_kept
def limUp (p : Plan) (ws : List Wish) (h : Int) : Nat → Int
  | 0 => 0
  | n + 1 => if valueAt p ws h n > limUp p ws h n then valueAt p ws h n else limUp p ws h n
theorem limUp_is (p : Plan) (ws : List Wish) (h : Int) : ∀ n, 0 ≤ limUp p ws h n ∧ (∀ k : Int, 0 ≤ k → k < n → valueAt p ws h k ≤ limUp p ws h n) ∧ (limUp p ws h n = 0 ∨ ∃ k : Int, 0 ≤ k ∧ k < n ∧ limUp p ws h n = valueAt p ws h k)
  | 0 => ⟨Int.le_refl _, fun k h0 h1 => by omega, .inl rfl⟩
  | n + 1 => by
    obtain ⟨h1, h2, h3⟩ := limUp_is p ws h n
    unfold limUp
    by_cases c : valueAt p ws h n > limUp p ws h n
    · rw [if_pos c]
      refine ⟨by omega, fun k k0 k1 => ?_, .inr ⟨n, by omega, by omega, rfl⟩⟩
      by_cases e : k = n
      · rw [e]; exact Int.le_refl _
      · have := h2 k k0 (by omega); omega
    · rw [if_neg c]
      refine ⟨h1, fun k k0 k1 => ?_, ?_⟩
      · by_cases e : k = n
        · rw [e]; omega
        · exact h2 k k0 (by omega)
      · rcases h3 with h3 | ⟨k, k0, k1, e⟩
        · exact .inl h3
        · exact .inr ⟨k, k0, by omega, e⟩
theorem limUp_limit {p : Plan} {s : List Int} (hp : p.Ok) (hs : SomeOk p s) (h : Int) : limUp p (named p s) h 61 = leastLimit p s h := by
  obtain ⟨h1, h2, h3⟩ := limUp_is p (named p s) h 61
  obtain ⟨k, k0, k1, e⟩ := limit_at p s h
  have a := h2 k k0 (by omega)
  have b := limit_nonneg hp hs h
  rcases h3 with h3 | ⟨j, j0, j1, ej⟩
  · omega
  · have := limit_ge p s h j0 (by omega : j ≤ 60); omega
/-- first and last weeks of the wishes for an object, ascending -/
def mineP (p : Plan) (s : List Int) (i : Int) : List (Int × Int) := sortP ((itemW p s i).map fun w => (w.first, w.last))
theorem mine_sum (p : Plan) (s : List Int) (i : Int) : ((mineP p s i).map fun x => x.2 - x.1 + 1).sum = leastLight p s i := by
  unfold leastLight weeksOf mineP
  rw [sum_perm ((sortP_perm _).map fun x => x.2 - x.1 + 1), List.map_map]
  rfl
theorem mine_len {p : Plan} {s : List Int} (hs : SomeOk p s) (hp : p.Ok) (i : Int) : (mineP p s i).length ≤ 8 := by
  unfold mineP
  rw [(sortP_perm _).length_eq, List.length_map]
  refine Nat.le_trans (List.length_filter_le ..) ?_
  unfold named
  rw [List.length_map]
  have := hs.len
  have := hp.w8
  omega
def endMax (M : List (Int × Int)) (a : Int) : Int := maxI ((M.take a.toNat).map Prod.snd)
def endsUp (M : List (Int × Int)) : List Int := (rangeD 1 (M.length - 1)).map (endMax M)
def gapsOf (M : List (Int × Int)) : List Int := ((M.drop 1).zip (endsUp M)).map fun x => x.1.1 - x.2 - 1
theorem gaps_mem (M : List (Int × Int)) (g : Int) : g ∈ gapsOf M ↔ ∃ j, ∃ h : j + 1 < M.length, g = M[j + 1].1 - endMax M ((j : Int) + 1) - 1 := by
  unfold gapsOf
  rw [List.mem_map]
  have hl : ((M.drop 1).zip (endsUp M)).length = M.length - 1 := by
    unfold endsUp
    rw [List.length_zip, List.length_drop, List.length_map, rangeD_len]; omega
  have at_ : ∀ j (h : j < ((M.drop 1).zip (endsUp M)).length), ((M.drop 1).zip (endsUp M))[j] = (M[j + 1]'(by omega), endMax M ((j : Int) + 1)) := by
    intro j h
    rw [List.getElem_zip]
    refine Prod.ext ?_ ?_
    · show (M.drop 1)[j]'_ = _
      rw [List.getElem_drop]
      congr 1
      omega
    · show (endsUp M)[j]'_ = _
      unfold endsUp rangeD
      simp only [List.getElem_map, List.getElem_range]
      congr 1
      omega
  constructor
  · rintro ⟨x, hx, rfl⟩
    obtain ⟨j, hj, rfl⟩ := List.mem_iff_getElem.mp hx
    refine ⟨j, by omega, ?_⟩
    rw [at_ j hj]
  · rintro ⟨j, hj, rfl⟩
    refine ⟨_, List.getElem_mem (show j < ((M.drop 1).zip (endsUp M)).length by omega), ?_⟩
    rw [at_ j (by omega)]
theorem rests_pairwise (r : Int) : ∀ l : List Wish, restsBetween r l = true ↔ l.Pairwise fun a b => doRest a b r = true
  | [] => by simp [restsBetween]
  | a :: l => by
    unfold restsBetween
    rw [Bool.and_eq_true, List.all_eq_true, rests_pairwise r l, List.pairwise_cons]
theorem rests_gaps {p : Plan} {s : List Int} (hp : p.Ok) (hs : SomeOk p s) (i : Int) {r : Int} (h0 : 0 ≤ r) : restsBetween r (itemW p s i) = true ↔ ∀ g ∈ gapsOf (mineP p s i), r ≤ g := by
  have fl : ∀ x ∈ mineP p s i, x.1 ≤ x.2 := fun x hx => by
    unfold mineP at hx
    rw [(sortP_perm _).mem_iff, List.mem_map] at hx
    obtain ⟨w, hw, rfl⟩ := hx
    exact ((hs.gw hp).wk w (List.mem_filter.mp hw).1).2.1
  have so : (mineP p s i).Pairwise fun a b => a.1 ≤ b.1 := (sortP_sorted _).imp fun {a b} h => by
    simp only [pairLt, Bool.or_eq_false_iff, Bool.and_eq_false_iff, decide_eq_false_iff_not] at h
    omega
  have e1 : restsBetween r (itemW p s i) = true ↔ (mineP p s i).Pairwise fun a b => b.2 + r < a.1 ∨ a.2 + r < b.1 := by
    rw [rests_pairwise]
    unfold mineP
    rw [(sortP_perm _).pairwise_iff (R := fun a b : Int × Int => b.2 + r < a.1 ∨ a.2 + r < b.1) (fun {a b} h => h.symm), List.pairwise_map]
    constructor
    · exact fun h => h.imp fun {a b} q => by
        unfold doRest at q
        rw [Bool.or_eq_true, decide_eq_true_iff, decide_eq_true_iff] at q
        exact q
    · exact fun h => h.imp fun {a b} q => by
        unfold doRest
        rw [Bool.or_eq_true, decide_eq_true_iff, decide_eq_true_iff]
        exact q
  rw [e1]
  generalize mineP p s i = M at fl so
  rw [List.pairwise_iff_getElem] at so ⊢
  constructor
  · intro h g hg
    obtain ⟨j, hj, rfl⟩ := (gaps_mem M g).mp hg
    have hne : (M.take ((j : Int) + 1).toNat).map Prod.snd ≠ [] := by
      intro z
      have := congrArg List.length z
      rw [List.length_map, List.length_take, List.length_nil] at this
      omega
    have hm := maxI_mem hne
    obtain ⟨x, hx, ex⟩ := List.mem_map.mp hm
    obtain ⟨k, hk, rfl⟩ := List.mem_iff_getElem.mp hx
    have hk' : k < j + 1 := by
      rw [List.length_take] at hk
      have : ((j : Int) + 1).toNat = j + 1 := by omega
      omega
    rw [List.getElem_take] at ex
    have q := h k (j + 1) (by omega) hj hk'
    have q2 := so k (j + 1) (by omega) hj hk'
    have f1 := fl _ (List.getElem_mem (show j + 1 < M.length from hj))
    have : endMax M ((j : Int) + 1) = (M[k]'(by omega)).2 := ex.symm
    rw [this]
    rcases q with q | q <;> omega
  · intro h a b ha hb hab
    right
    obtain ⟨j, rfl⟩ : ∃ j, b = j + 1 := ⟨b - 1, by omega⟩
    have q := h _ ((gaps_mem M _).mpr ⟨j, hb, rfl⟩)
    have : (M[a]'ha).2 ≤ endMax M ((j : Int) + 1) := by
      refine maxI_ge (List.mem_map.mpr ⟨M[a], ?_, rfl⟩)
      have : ((j : Int) + 1).toNat = j + 1 := by omega
      rw [this]
      exact List.mem_take_iff_getElem.mpr ⟨a, by omega, rfl⟩
    omega
def restDue (M : List (Int × Int)) : Int := minL (gapsOf M ++ [9])
theorem due_mem (M : List (Int × Int)) : restDue M ∈ gapsOf M ++ [9] := minL_mem (by simp)
theorem due_le {M : List (Int × Int)} {g : Int} (h : g ∈ gapsOf M ++ [9]) : restDue M ≤ g := minL_le h
theorem most_due {p : Plan} {s : List Int} (hp : p.Ok) (hs : SomeOk p s) (i : Int) : mostRest p s i = if 0 ≤ restDue (mineP p s i) then some (restDue (mineP p s i)) else none := by
  have h9 : restDue (mineP p s i) ≤ 9 := due_le (by simp)
  have ok : ∀ r, r ∈ restsOk p s i ↔ (0 ≤ r ∧ r ≤ restDue (mineP p s i)) := by
    intro r
    unfold restsOk
    rw [List.mem_filter, rangeD_mem]
    constructor
    · rintro ⟨⟨a, b⟩, c⟩
      refine ⟨a, ?_⟩
      have h := (rests_gaps hp hs i a).mp c
      rcases List.mem_append.mp (due_mem (mineP p s i)) with q | q
      · exact h _ q
      · rw [List.mem_singleton.mp q]; omega
    · rintro ⟨a, b⟩
      refine ⟨⟨a, by omega⟩, (rests_gaps hp hs i a).mpr fun g hg => ?_⟩
      have := due_le (List.mem_append_left [9] hg)
      omega
  unfold mostRest
  by_cases c : 0 ≤ restDue (mineP p s i)
  · rw [if_pos c]
    have hm := (ok _).mpr ⟨c, Int.le_refl _⟩
    have hne : restsOk p s i ≠ [] := List.ne_nil_of_mem hm
    rw [if_neg (by rw [List.isEmpty_iff]; exact hne)]
    have h1 := maxI_ge hm
    have h2 := (ok _).mp (maxI_mem hne)
    congr 1
    omega
  · rw [if_neg c]
    have hn : restsOk p s i = [] := by
      cases q : restsOk p s i with
      | nil => rfl
      | cons r l =>
        have := (ok r).mp (by rw [q]; exact List.mem_cons_self)
        omega
    rw [hn]; rfl
/-! the errors -/
def badLoan (d e h i wk bg : PyData) (k : Ek) : Prop := badSome d e k ∨ ∃ (p : Plan) (s : List Int), p.Ok ∧ SomeOk p s ∧ d = eP p ∧ e = eT s ∧
  ((k = .number ∧ isBetween h 0 ((p.houses.length : Int) - 1) = false) ∨ ∃ h' : Int, 0 ≤ h' ∧ h' < p.houses.length ∧ h = .int h' ∧
  ((k = .number ∧ isBetween i 0 ((p.objects.length : Int) - 1) = false) ∨ ∃ i' : Int, InObj p i' ∧ i = .int i' ∧
  ((k = .number ∧ (p.obj i').home = h') ∨ ((p.obj i').home ≠ h' ∧
  ((k = .number ∧ isBetween wk 1 40 = false) ∨ ∃ w' : Int, 1 ≤ w' ∧ w' ≤ 40 ∧ wk = .int w' ∧
  ((k = .number ∧ isBetween bg 0 60 = false) ∨ ∃ b' : Int, 0 ≤ b' ∧ b' ≤ 60 ∧ bg = .int b' ∧ k = .bad ∧ good p s = false))))))
def x_first_week : CtX := ⟨PyData × PyData × PyData × PyData × PyData × PyData × Ek, fun a => [a.1, a.2.1, a.2.2.1, a.2.2.2.1, a.2.2.2.2.1, a.2.2.2.2.2.1], fun a => badLoan a.1 a.2.1 a.2.2.1 a.2.2.2.1 a.2.2.2.2.1 a.2.2.2.2.2.1 a.2.2.2.2.2.2, fun a => a.2.2.2.2.2.2⟩
def x_most_rest : CtX := x_least_light
/-- what the three defs of limits raise at a number that is too great -/
def x_nine : CtX := ⟨Plan × List Int, fun a => [eP a.1, eT a.2, .int 9], fun a => a.1.Ok ∧ SomeOk a.1 a.2, fun _ => .number⟩
def c_law_errors14 : Ct := ⟨Plan × List Int × Int × Int, fun a => [eP a.1, eT a.2.1, .int a.2.2.1, .int a.2.2.2], fun a => a.1.Ok ∧ SomeOk a.1 a.2.1 ∧ LoanOk a.1 a.2.2.1 a.2.2.2 1, fun _ => Eq (.bool true)⟩
theorem rangeD_getL {lo : Int} {n i : Nat} {x : Int} (h : (rangeD lo n)[i]? = some x) : x = lo + i ∧ i < n := by
  have hl := (List.getElem?_eq_some_iff.mp h).1
  rw [rangeD_len] at hl
  unfold rangeD at h
  rw [List.getElem?_map, List.getElem?_range hl] at h
  rw [Option.map_some] at h
  have := Option.some.inj h
  exact ⟨by omega, hl⟩
theorem between_no {i lo hi : Int} (h : i < lo ∨ hi < i) : isBetween (.int i) lo hi = false := by
  rw [isBetween_int, Bool.and_eq_false_iff, decide_eq_false_iff_not, decide_eq_false_iff_not]
  omega
theorem nine_h {p : Plan} (hp : p.Ok) : isBetween (.int 9) 0 ((p.houses.length : Int) - 1) = false := between_no (by have := hp.h4; omega)
theorem nine_o {p : Plan} (hp : p.Ok) : isBetween (.int 9) 0 ((p.objects.length : Int) - 1) = false := between_no (by have := hp.o4; omega)
def oddH14 (p : Plan) (i : Int) : List PyData := [.none, .int (-1), .int (p.houses.length : Nat), .int (p.obj i).home, .bool true]
theorem oddH14_bad {p : Plan} {s : List Int} (hp : p.Ok) (hs : SomeOk p s) {i : Int} (hi : InObj p i) {d : PyData} (h : d ∈ oddH14 p i) : badLoan (eP p) (eT s) d (.int i) (.int 1) (.int 0) .number := by
  refine .inr ⟨p, s, hp, hs, rfl, rfl, ?_⟩
  have ho := hp.os _ (p.obj_mem hi.1 hi.2)
  simp only [oddH14, List.mem_cons, List.not_mem_nil, or_false] at h
  rcases h with h | h | h | h | h <;> subst h
  · exact .inl ⟨rfl, rfl⟩
  · exact .inl ⟨rfl, between_no (by omega)⟩
  · exact .inl ⟨rfl, between_no (by omega)⟩
  · exact .inr ⟨_, ho.h0, ho.h1, rfl, .inr ⟨i, hi, rfl, .inl ⟨rfl, rfl⟩⟩⟩
  · exact .inl ⟨rfl, rfl⟩
def oddI14 (p : Plan) : List PyData := [.none, .int (p.objects.length : Nat)]
theorem oddI14_bad {p : Plan} {s : List Int} (hp : p.Ok) (hs : SomeOk p s) {h : Int} (h0 : 0 ≤ h) (h1 : h < p.houses.length) {d : PyData} (hd : d ∈ oddI14 p) : badLoan (eP p) (eT s) (.int h) d (.int 1) (.int 0) .number := by
  refine .inr ⟨p, s, hp, hs, rfl, rfl, .inr ⟨h, h0, h1, rfl, .inl ⟨rfl, ?_⟩⟩⟩
  simp only [oddI14, List.mem_cons, List.not_mem_nil, or_false] at hd
  rcases hd with e | e <;> subst e
  · rfl
  · exact between_no (by omega)
def oddW14 : List (PyData × PyData) := [(.int 0, .int 0), (.int 41, .int 0), (.none, .int 0), (.int 1, .int 61), (.int 1, .int (-1)), (.int 1, .none)]
theorem oddW14_bad {p : Plan} {s : List Int} (hp : p.Ok) (hs : SomeOk p s) {h i : Int} (hl : LoanOk p h i 1) {x : PyData × PyData} (hd : x ∈ oddW14) : badLoan (eP p) (eT s) (.int h) (.int i) x.1 x.2 .number := by
  refine .inr ⟨p, s, hp, hs, rfl, rfl, .inr ⟨h, hl.h0, hl.h1, rfl, .inr ⟨i, hl.ob, rfl, .inr ⟨hl.ne, ?_⟩⟩⟩⟩
  simp only [oddW14, List.mem_cons, List.not_mem_nil, or_false] at hd
  rcases hd with e | e | e | e | e | e <;> subst e
  · exact .inl ⟨rfl, by decide⟩
  · exact .inl ⟨rfl, by decide⟩
  · exact .inl ⟨rfl, by decide⟩
  · exact .inr ⟨1, by decide, by decide, rfl, .inl ⟨rfl, by decide⟩⟩
  · exact .inr ⟨1, by decide, by decide, rfl, .inl ⟨rfl, by decide⟩⟩
  · exact .inr ⟨1, by decide, by decide, rfl, .inl ⟨rfl, by decide⟩⟩
def ans14 (n : Nat) : List PyData := (Out.err .plan).d :: (Out.err .wishes).d :: List.replicate n (Out.err .number).d
theorem ans14_succ (n : Nat) : ans14 n ++ [(Out.err .number).d] = ans14 (n + 1) := by
  unfold ans14
  rw [List.replicate_succ']; rfl
theorem ans14_len (n : Nat) : (ans14 n).length = n + 2 := by
  unfold ans14
  rw [List.length_cons, List.length_cons, List.length_replicate]
def o14 (p : Plan) (s : List Int) (h i w b : Int) : Out := if good p s = true then .val (eOpt PyData.int (firstWeek p s h i w b)) else .err .bad
theorem o14_good {p : Plan} {s : List Int} {h i w b : Int} (g : good p s = true) : o14 p s h i w b = .val (eOpt PyData.int (firstWeek p s h i w b)) := if_pos g
theorem o14_bad {p : Plan} {s : List Int} {h i w b : Int} (g : good p s = false) : o14 p s h i w b = .err .bad := if_neg (by rw [g]; exact Bool.false_ne_true)
theorem eqv_val {d e : PyData} {k : Bool} (h : PyData.eqv d e = k) : PyData.eqv (Out.val d).d (Out.val e).d = k := by
  simp only [Out.d, PyData.eqv, PyData.eqvAll, h, Bool.and_true]
  rw [show ((("returns" : Str) == "returns") = true) by decide, Bool.true_and]
theorem shp_val {d : PyData} {n : Nat} (h : Shp n d) : Shp (n + 1) (Out.val d).d := shp_tuple fun x hx => by
  simp only [List.mem_cons, List.not_mem_nil, or_false] at hx
  rcases hx with e | e <;> subst e
  · exact (shp_str _ (by decide +kernel)).mono (Nat.zero_le _)
  · exact h
theorem o14_shp (p : Plan) (s : List Int) (h i w b : Int) : SeqAt.shaped (o14 p s h i w b).d = true := by
  unfold o14
  split
  · exact (shp_val (en_optI.shp _)).ok
  · exact shp_err _
theorem o14_eqv (p : Plan) (s : List Int) (h i w b : Int) : PyData.eqv (o14 p s h i w b).d (o14 p s h i w b).d = true := by
  unfold o14
  split
  · exact eqv_val (by rw [en_optI.eq]; simp)
  · rw [eqv_err]; simp
end Mus

namespace L2
open PySem PySem.Spec PyProof.Rows
section
variable {P : Program} {w : World} {A : Around} {E : Value → Shared → Prop} {s : Shared}
/-- a set of rows, few of which are unlike (turned from the library's set of few rows) -/
def FewRows (ks : List (Addr × List Int)) : Prop := ∀ i M, i < ks.length → Got ks i M → (M.map (·.2)).Nodup → M.length + 1 < 64
theorem pl_set_rows {I : Addr} {fp wr : List Addr} {G : Array GenState → Array GenState → Prop} {n : Nat} {Pv : Nat → Value → Prop} {St : Nat → Shared → Prop} {R : Result → Shared → Prop} (W : WalksS P w A.in1 I fp wr G n Pv St) (S : Addr) (hSf : S ∉ fp) (ks : List (Addr × List Int)) (hn : n = ks.length) (hfew : FewRows ks)
    (hval : ∀ i v, Pv i v → ∃ p, ks[i]? = some p ∧ v = .ref p.1) (h0 : Heap) (hk : ∀ p ∈ ks, IsT P w h0 p.2 p.1) (hS0 : h0.get? S = none) (hw0 : ∀ b ∈ wr, h0.get? b = none) (hu : A.in1.units < cLine) : ∀ (m i : Nat) (s : Shared), n - i = m → i ≤ n → St i s → (∀ b o, h0.get? b = some o → s.heap.get? b = some o) → (∃ L es ep t, SetTR P w s.heap S L es ep t ∧ Got ks i L) →
      (∀ s' L es ep t, Moved (S :: wr) G s s' → SetTR P w s'.heap S L es ep t → Got ks n L → (∀ b o, h0.get? b = some o → s'.heap.get? b = some o) → R (.ok (.ret .none)) s') → codeAny (model P w) A (.builtin "set.update.loop" ⟨[.ref S, .ref I], []⟩) R s := by
  have nSw : S ∉ wr := fun h => hSf (W.sub _ h)
  have sub1 : ∀ b ∈ wr, b ∈ S :: wr := fun b hb => List.mem_cons_of_mem _ hb
  have keepM : ∀ {s s' : Shared}, Moved wr G s s' → (∀ b o, h0.get? b = some o → s.heap.get? b = some o) → ∀ b o, h0.get? b = some o → s'.heap.get? b = some o := fun hm hkp b o e => hm.heap b o (fun hb => by rw [hw0 b hb] at e; cases e) (hkp b o e)
  intro m
  induction m with
  | zero =>
    intro i s hm hi hst hkp ⟨L, es, ep, t, hS, g⟩ hR
    obtain rfl : i = n := by omega
    refine codeAny_builtin F.entry_set_update_loop ?_; rw [Around.under_plainId F.plain_set_update_loop _]
    show wpAny _ A.in1 (pyNext (.ref I) >>= _) _ _ s; refine wpAny_bind (W.done s _ _ hst fun s' hm => ?_)
    have hkp1 := keepM hm hkp
    exact wpAny_pure (hR s' L es ep t (hm.mono sub1) (hS.keep (fun o e => hm.heap S o nSw e) fun p hp => isT_keep (hk p (List.mem_of_mem_take (g.sub p hp))) hkp1) g hkp1)
  | succ m ih =>
    intro i s hm hi hst hkp ⟨L, es, ep, t, hS, g⟩ hR
    have ilt : i < n := by omega
    refine codeAny_builtin F.entry_set_update_loop ?_; rw [Around.under_plainId F.plain_set_update_loop _]
    show wpAny _ A.in1 (pyNext (.ref I) >>= _) _ _ s; refine wpAny_bind (W.item i s _ _ ilt hst fun v s' hP hst' hm => ?_)
    obtain ⟨p, hp, rfl⟩ := hval i v hP
    have hkp1 := keepM hm hkp
    have hS1 : SetTR P w s'.heap S L es ep t := hS.keep (fun o e => hm.heap S o nSw e) fun q hq => isT_keep (hk q (List.mem_of_mem_take (g.sub q hq))) hkp1
    have hx1 : IsT P w s'.heap p.2 p.1 := isT_keep (hk p (List.mem_of_getElem? hp)) hkp1
    show wpAny _ A.in1 (holding [Value.ref p.1] (setAdd S (.ref p.1)) >>= _) _ _ s'; refine wpAny_bind (wpAny_holding ?_)
    unfold setAdd; refine wpAny_holding ?_; refine wpAny_bind (wpAny_pyHash_tuple hu hx1 ?_)
    refine add_at (s := { s' with toks := s'.toks + (p.2.length + 1) }) hS1 hx1 hu (hfew i L (by omega) g hS.nd) fun b h' L' es' ep' t' hsb hS2 c1 c2 => ?_
    have g1 : Got ks (i + 1) L' := (Classical.em (p.2 ∈ L.map (·.2))).elim (fun c => by rw [c1 c]; exact g.same hp c) fun c => g.more hp (c2 c)
    have hkp2 : ∀ b o, h0.get? b = some o → h'.get? b = some o := fun b o e => (hsb.2 b fun z => by rw [z, hS0] at e; cases e).trans (hkp1 b o e)
    refine wpAny_pure ⟨plainId_quiet F.plain_set_update_loop _, ih (i + 1) _ (by omega) ilt (W.frame _ s' _ _ hst' (Nat.le_add_right _ _) fun b hb o e => ?_) hkp2 ⟨L', es', ep', t', hS2, g1⟩ fun s2 L2 es2 ep2 t2 hm2 hS3 g2 hkp3 => ?_⟩
    · rw [hsb.2 b fun h : b = S => hSf (by rw [← h]; exact hb)]; exact e
    · exact hR s2 L2 es2 ep2 t2 (Moved.trans W.gtrans ((hm.mono sub1).then_heap (Nat.le_add_right _ _) fun b o hb e => by rw [hsb.2 b fun h : b = S => hb (by rw [h]; exact List.mem_cons_self)]; exact e) hm2) hS3 g2 hkp3
abbrev plNoSet (w : World) : Obj := { cls := .type "set", dict := none, data := .set #[] 0 (.fresh 0 0 (!w.params.followText "set-order")) }
set_option maxRecDepth 100000 in
set_option maxHeartbeats 3200000 in
theorem pl_call_set {l : Addr} {items : Array Value} (ks : List (Addr × List Int)) {Q : Value → Shared → Prop} (hh : A.handled = none) (hl : s.heap.IsList l items) (hit : items.toList = ks.map fun p => Value.ref p.1) (hk : ∀ p ∈ ks, IsT P w s.heap p.2 p.1) (hfew : FewRows ks) (hu : A.units + 3 < cLine)
    (h : ∀ (h' : Heap) (tk : Nat) L es ep t, SetTR P w h' s.heap.objs.size L es ep t → Got ks ks.length L → (∀ b o, s.heap.get? b = some o → h'.get? b = some o) → Q (.ref s.heap.objs.size) { s with heap := h', toks := tk }) : wpAny (model P w) A (call (.type "set") [.ref l]) Q E s := by
  have hisz : items.size = ks.length := by rw [← Array.length_toList, hit, List.length_map]
  obtain ⟨c, tl, hmro⟩ := F.called_set.mro
  have hmade := F.called_set.made; have hsub := F.called_set.sub
  refine wpAny_call (codeAny_of_tree ?_); show wpAny _ _ (callAny (.type "set") _) _ _ _
  refine wpAny_pure ⟨Code.quiet_builtin _ (by decide +kernel), codeAny_builtin F.entry_type_call ?_⟩; rw [Around.under_plain (weight_type_call_type "set" [.ref l] []) rfl]
  have h1 := F.called_set.notType; have h2 := F.called_set.canCreate; have hct := F.typeCall_set_1 (.ref l)
  repeat (any_goals (first | assumption | wp_step))

  refine codeAny_mono (code_set_led1 (.ref l) (E := E) (Q₁ := fun obj s₁ => obj = .ref s.heap.objs.size ∧ s₁ = { s with heap := s.heap.push (plNoSet w) }) ⟨rfl, rfl⟩) fun r s₁ hr => ?_
  cases r with
  | error e => exact hr
  | ok fl =>
    cases fl with
    | ret obj =>
      obtain ⟨rfl, rfl⟩ := hr
      have hS : (s.heap.push (plNoSet w)).get? s.heap.objs.size = some (plNoSet w) := Heap.get?_push_size _ rfl
      have hT : Shared.TypeIs { s with heap := s.heap.push (plNoSet w) } (.ref s.heap.objs.size) "set" := ⟨_, hS, rfl⟩
      have hli := F.called_set.init.lookup; have hbi := F.called_set.init.bind (.ref s.heap.objs.size)
      repeat (any_goals (first | assumption | wp_step))

      refine codeAny_mono (codeAny_call_builtin (R := wants (fun r s₂ => r = .none ∧ ∃ h' tk L es ep t, s₂ = { s with heap := h', toks := tk } ∧ SetTR P w h' s.heap.objs.size L es ep t ∧ Got ks ks.length L ∧ (∀ b o, s.heap.get? b = some o → h'.get? b = some o)) E) F.called_set.init.plain F.entry_set_init (check_set_init_1 hT ?_)) fun r₂ s₂ hr₂ => ?_
      · obtain ⟨ol, hol, hcl, nl, hdl⟩ := hl
        obtain ⟨ocls, odict, odata, oslots⟩ := ol
        simp only at hcl hdl
        subst hcl; subst hdl
        have hol' : (s.heap.push (plNoSet w)).get? l = some { cls := .type "list", dict := odict, data := .seq items nl, slots := oslots } := Heap.get?_push_of_some _ hol
        have hsls := F.sub_list_set; have hslf := F.sub_list_frozenset
        have hne : (Value.type "list" == Value.type "dict") = false := by decide
        have hl1 : (s.heap.push (plNoSet w)).IsList l items := ⟨_, hol', rfl, nl, rfl⟩
        unfold Builtin.«set.__init__» noKeywords Builtin.Frozenset.updateFrom
        generalize hPI : pyIter = PI
        wp_walk
        subst hPI
        refine wpAny_pyIter_list hl1 ?_; refine wpAny_bind (wpAny_runValue ?_)
        have hlS : l < s.heap.objs.size := Heap.lt_size hol
        have hh3 : A.in1.in1.in1.handled = none := by simp [hh]
        have hz1 : (s.heap.push (plNoSet w)).objs.size = s.heap.objs.size + 1 := Heap.size_push ..
        have hneI : l ≠ (s.heap.push (plNoSet w)).objs.size := by rw [Heap.size_push]; exact Nat.ne_of_lt (Nat.lt_succ_of_lt hlS)
        have hSf : s.heap.objs.size ∉ [(s.heap.push (plNoSet w)).objs.size, l] := by
          rw [Heap.size_push]; simp only [List.mem_cons, List.mem_singleton, List.not_mem_nil, or_false, not_or]
          exact ⟨Nat.ne_of_lt (Nat.lt_succ_self _), Nat.ne_of_gt hlS⟩
        have hval : ∀ (i : Nat) (v : Value), items[i]? = some v → ∃ p, ks[i]? = some p ∧ v = .ref p.1 := fun i v hv => by
          have q : items.toList[i]? = some v := by rw [Array.getElem?_toList]; exact hv
          rw [hit, List.getElem?_map] at q
          cases hq : ks[i]? with
          | none => rw [hq] at q; cases q
          | some p => rw [hq] at q; exact ⟨p, rfl, (Option.some.inj q).symm⟩
        have none_of : ∀ b, s.heap.objs.size ≤ b → s.heap.get? b = none := fun b hb => by
          cases q : s.heap.get? b with
          | none => rfl
          | some o => exact absurd (Nat.lt_of_lt_of_le (Heap.lt_size q) hb) (Nat.lt_irrefl _)
        refine pl_set_rows ((Walks.list hh3 _ l hneI items).toS) s.heap.objs.size hSf ks hisz hfew hval s.heap hk (none_of _ (Nat.le_refl _)) (fun b hb => none_of b (by rw [List.mem_singleton.mp hb, Heap.size_push]; exact Nat.le_succ _)) hu (items.size - 0) 0 _ (by omega) (Nat.zero_le _) ⟨⟨_, Heap.get?_push_size _ rfl, rfl, rfl⟩, (hl1.push _)⟩ (fun b o e => Heap.get?_push_of_some _ (Heap.get?_push_of_some _ e)) ?hS0 ?hR
        case hS0 => exact ⟨[], #[], 0, _, setTR_fresh (Heap.get?_push_of_some _ hS), Got.zero ks⟩
        case hR =>
          intro s' L es ep t hm hS' g' hkp
          obtain ⟨h', g2, d', tk', os'⟩ := s'
          obtain rfl : g2 = s.gens := hm.gens
          obtain rfl : d' = s.drawn := hm.drawn
          obtain rfl : os' = s.os := hm.os
          rw [hisz] at g'
          show wpAny _ _ _ _ _ _
          refine wpAny_pure ?_; show wpAny _ _ (ret Value.none) _ _ _
          exact wpAny_pure ⟨rfl, h', tk', L, es, ep, t, rfl, hS', g', hkp⟩
      · cases r₂ with
        | error e => exact hr₂
        | ok fl₂ =>
          cases fl₂ with
          | ret r =>
            obtain ⟨rfl, h', tk, L, es, ep, t, rfl, hS', g', hk'⟩ := hr₂
            repeat (any_goals (first | assumption | wp_step))
            exact h _ _ _ _ _ _ hS' g' hk'
          | _ => exact hr₂.elim
    | _ => exact hr.elim
end
end L2

namespace L2
open PySem PySem.Spec PyProof.Rows PySem.W
theorem perm_map_ex {α β : Type} {f : α → β} {l m : List β} (h : l.Perm m) : ∀ L : List α, m = L.map f → ∃ L1 : List α, L1.Perm L ∧ l = L1.map f := by
  induction h with
  | nil =>
    intro L e
    cases L with
    | nil => exact ⟨[], .nil, rfl⟩
    | cons a L => cases e
  | cons x h ih =>
    intro L e
    cases L with
    | nil => cases e
    | cons a L =>
      rw [List.map_cons] at e
      injection e with e1 e2
      obtain ⟨L1, p1, e3⟩ := ih L e2
      exact ⟨a :: L1, p1.cons a, by rw [List.map_cons, e1, e3]⟩
  | swap x y l =>
    intro L e
    match L, e with
    | a :: b :: L, e =>
      rw [List.map_cons, List.map_cons] at e
      injection e with e1 e2
      injection e2 with e2 e3
      exact ⟨b :: a :: L, .swap a b L, by rw [List.map_cons, List.map_cons, e1, e2, e3]⟩
  | trans h1 h2 ih1 ih2 =>
    intro L e
    obtain ⟨L1, p1, e1⟩ := ih2 L e
    obtain ⟨L2, p2, e2⟩ := ih1 L1 e1
    exact ⟨L2, p2.trans p1, e2⟩
theorem each_refs : ∀ L : List (Addr × List Int), EachIs (fun v (q : Addr × List Int) => v = Value.ref q.1) (L.map fun q => Value.ref q.1) L
  | [] => .nil
  | q :: L => .cons rfl (each_refs L)
theorem each_eq : ∀ {out : List Value} {L : List (Addr × List Int)}, EachIs (fun v (q : Addr × List Int) => v = Value.ref q.1) out L → out = L.map fun q => Value.ref q.1
  | _, _, .nil => rfl
  | _, _, .cons h t => by rw [List.map_cons, h, each_eq t]
section
variable {P : Program} {w : World} {A : Around} {E : Value → Shared → Prop} {s : Shared}
theorem row_reads : ∀ {k : List Int} {vs : List Value} {h : Heap}, ItemsAre (intKind P w) k vs → ReadsAll h vs (k.map PyData.int) []
  | _, _, _, .nil => .nil
  | _, _, _, .cons h t => by
    obtain ⟨tk, rfl⟩ := Value.isInt_shape h
    exact .cons (as := []) (.int _ _) (row_reads t)
theorem isT_reads {k : List Int} {b : Addr} {h : Heap} (x : IsT P w h k b) : Reads h (.ref b) (PL.rowD k) [] := by
  obtain ⟨o, items, n, ho, hc, hd, hi⟩ := x
  exact .tuple ho hc hd (row_reads hi)
theorem sorted_rowsP (L : List (Addr × List Int)) : (L.mergeSort (dataLe false fun q => PL.rowD q.2)).Pairwise fun q r => ¬ r.2 < q.2 := by
  have e : (dataLe false fun q : Addr × List Int => PL.rowD q.2) = fun a b => !decide (b.2 < a.2) := by
    funext a b
    rw [dataLe_eq]
    show (!dataLt (PL.rowD b.2) (PL.rowD a.2)) = _
    rw [PL.lt_row]
  rw [e]
  have h := List.pairwise_mergeSort (le := fun a b : Addr × List Int => !decide (b.2 < a.2)) (fun a b c h1 h2 => by
    simp only [Bool.not_eq_true', decide_eq_false_iff_not, List.not_lt] at h1 h2 ⊢
    exact List.le_trans h1 h2) (fun a b => by
    rw [Bool.or_eq_true, Bool.not_eq_true', Bool.not_eq_true', decide_eq_false_iff_not, decide_eq_false_iff_not, List.not_lt, List.not_lt]
    exact List.le_total a.2 b.2) L
  exact h.imp fun {a b} h => by simpa using h
/-- sorted(a set of rows, none empty) -/
theorem pl_sorted_set {a : Addr} {L : List (Addr × List Int)} {es : Array (Int × Value)} {ep : Nat} {t : SetTable} {Q : Value → Shared → Prop} (R : SetTR P w s.heap a L es ep t) (hh : A.handled = none) (hne : ∀ p ∈ L, p.2 ≠ []) (hu : A.units + 65 < cLine)
    (hQ : ∀ s' p (out : Array Value) (c : Nat) (L' : List (Addr × List Int)), (∀ b o, s.heap.get? b = some o → s'.heap.get? b = some o) → s'.gens = s.gens → s'.os = s.os → s.heap.objs.size ≤ p → s'.heap.get? p = some (seqObj "list" out c) → out.toList = L'.map (fun q => Value.ref q.1) → L'.Perm L → L'.Pairwise (fun q r => ¬ r.2 < q.2) → Q (.ref p) s') :
    wpAny (model P w) A (call (.builtin "sorted") [.ref a]) Q E s := by
  obtain ⟨o, ho, hex, hd⟩ := R.ob
  have hsz := R.size; have hfew := R.few
  refine Calls.call_function_entry kind_sorted plain_sorted entry_sorted (args_sorted1 _) ?_; unfold Builtin.«sorted»
  refine wpAny_bind (m := checkCount "sorted" 1 1 _) (wpAny_pure ?_); refine wpAny_bind (collect_set (A := A.in1) hh ⟨o, ho, hex.1, hd⟩ R.fits (by unfold scanBound; omega) R.tab.ris R.led fun s1 vs k1 hz g1 o1 pm => ?_)
  have hes : es.toList.map (·.2) = L.map fun q => Value.ref q.1 := by rw [R.rows]; unfold rowsOf; rw [List.map_map]; rfl
  rw [hes] at pm
  obtain ⟨L1, p1, rfl⟩ := perm_map_ex pm L rfl
  have hl1 : L1.length < 64 := by rw [p1.length_eq]; exact hfew
  refine wpAny_bind (wpAny_newList ?_ (by rw [sizeLine_eq, List.length_map]; omega))
  have hoL : (s1.heap.push (seqObj "list" (L1.map fun q => Value.ref q.1).toArray 0)).get? s1.heap.objs.size = some (seqObj "list" (L1.map fun q => Value.ref q.1).toArray 0) := Heap.get?_push_size _ rfl
  have rd : EachIs (fun v (q : Addr × List Int) => ∃ as, Reads (s1.heap.push (seqObj "list" (L1.map fun q => Value.ref q.1).toArray 0)) v (PL.rowD q.2) as ∧ s1.heap.objs.size ∉ as) (L1.map fun q => Value.ref q.1) L1 := by
    refine EachIs.of_zip (by rw [List.length_map]) fun p hp => ?_
    have h1 := EachIs.zip (each_refs L1) p hp
    have h2 : p.2 ∈ L := p1.mem_iff.mp (List.of_mem_zip hp).2
    rw [h1]
    exact ⟨[], isT_reads (isT_keep (R.tup _ h2) fun b u e => Heap.get?_push_of_some _ (k1 b u e)), by simp⟩
  have shape : ∀ q : Addr × List Int, q.2 ≠ [] → ∃ x r, PL.rowD q.2 = .tuple (x :: r) := fun q h => by
    cases hq : q.2 with
    | nil => exact absurd hq h
    | cons x r => exact ⟨.int x, r.map PyData.int, rfl⟩
  refine wpAny_bind (wpAny_holding (list_sort_data (s := { s1 with heap := s1.heap.push (seqObj "list" (L1.map fun q => Value.ref q.1).toArray 0) }) (R := fun v (q : Addr × List Int) => v = Value.ref q.1) (enc := fun q : Addr × List Int => PL.rowD q.2) (bs := L1) hoL (each_refs L1) rd ?_ ?_ (by rw [sizeLine_eq]; omega) (fun b hb => ?_) fun out hol ho => ?_))
  · intro d hd d' hd'
    obtain ⟨q, _, rfl⟩ := List.mem_map.mp hd
    obtain ⟨q', _, rfl⟩ := List.mem_map.mp hd'
    exact PL.alike_row _ _
  · refine .inl fun d hd => ?_
    obtain ⟨q, hq, rfl⟩ := List.mem_map.mp hd
    exact shape q (hne q (p1.mem_iff.mp hq))
  · have := PL.depth_row b.2
    show A.units + 1 + 1 + _ < _
    omega
  · obtain ⟨c, hc⟩ := sortedHeap_at (vs := L1.map fun q => Value.ref q.1) (out := out.toArray) hoL
    refine wpAny_pure ⟨_, rfl, hQ _ s1.heap.objs.size out.toArray c _ (fun b u e => ?_) g1 o1 hz hc (by rw [List.toList_toArray]; exact each_eq ho) ((List.mergeSort_perm _ _).trans p1) (sorted_rowsP L1)⟩
    have q := k1 b u e
    have hlt := Heap.lt_size q
    show (sortedHeap _ s1.heap.objs.size _ _).get? b = some u
    rw [sortedHeap_old (Nat.ne_of_lt hlt) (by rw [size_push']; exact Nat.lt_succ_of_lt hlt)]
    exact Heap.get?_push_of_some _ q
end
section
variable {X : Cx}
/-- set(xs), xs a list of rows of which few are unlike -/
def rSetRows (K : PySem.W.Frag) (P : Program) (w : World) : List V → Hp → VK → Prop := fun xs H Q => ∃ (l : Addr) (ks : List (Addr × List Int)), xs = [V.ref l] ∧ SqL K H l (ks.map fun p => V.ref p.1) ∧ (∀ p ∈ ks, SqT K H p.1 (p.2.map V.int)) ∧ FewRows ks ∧ ∀ a M, H a = none → (∀ p ∈ M, p ∈ ks) → (∀ p ∈ ks, p.2 ∈ M.map (·.2)) → Q (.ref a) (upd H a (SetTO P w a M))
theorem cr_setRows (hc : X.calm = true) (hu : X.A.units + 64 < cLine) : CallR X (.type "set") (rSetRows X.K X.prog X.w) := by
  intro pins s σ H xs us Q I r h
  obtain ⟨l, ks, rfl, hl, hk, hf, q⟩ := h
  rw [Vals.ref1 r]; obtain ⟨its, rv, pl, hz⟩ := I.list hl
  have hn : H s.heap.objs.size = none := I.hok.fresh (Nat.le_refl _)
  refine pl_call_set (P := X.prog) (w := X.w) ks (I.ok.hd hc) pl.isList (by simpa using refs_of_vals rv) (fun p hp => I.isT (hk p hp)) hf (by omega) fun h' tk M es ep t R g k => ?_
  exact ⟨.ref s.heap.objs.size, upd H s.heap.objs.size (SetTO X.prog X.w s.heap.objs.size M), I.laid (t' := tk) k (Nat.le_refl _) (setTO_new R.t0), rfl, q _ M hn (fun p hp => List.mem_of_mem_take (g.sub p hp)) fun p hp => g.all p (by rw [List.take_length]; exact hp)⟩
/-- sorted(such a set), no row empty -/
def rSortRows (K : PySem.W.Frag) (P : Program) (w : World) : List V → Hp → VK → Prop := fun vs H Q => ∃ (a : Addr) (M : List (Addr × List Int)), vs = [V.ref a] ∧ H a = some (SetTO P w a M) ∧ (∀ p ∈ M, SqT K H p.1 (p.2.map V.int)) ∧ (∀ p ∈ M, p.2 ≠ []) ∧
  ∀ (N : List (Addr × List Int)) (p : Addr), N.Perm M → (N.map (·.2)).Nodup → N.length < 64 → N.Pairwise (fun q r => ¬ r.2 < q.2) → H p = none → Q (.ref p) (upd H p (.lst (N.map fun q => V.ref q.1)))
theorem cr_sortRows (hc : X.calm = true) (hu : X.A.units + 65 < cLine) : CallR X (.builtin "sorted") (rSortRows X.K X.prog X.w) := by
  intro pins s σ H vs us Q I r h
  obtain ⟨a, M, rfl, ha, hk, hne, q⟩ := h
  obtain ⟨es, ep, t, R⟩ := SetT0.full (I.hok a _ ha).1 fun p hp => I.isT (hk p hp)
  rw [Vals.ref1 r]
  refine pl_sorted_set R (I.ok.hd hc) hne hu fun s' p out c N k g o hp hg hout pm pw => ?_
  have few1 : N.length < 64 := by rw [pm.length_eq]; exact R.few
  have hlen : (N.map fun q => V.ref q.1).length ≤ sizeLine := by rw [List.length_map, sizeLine_eq]; omega
  have hn : H p = none := I.hok.fresh hp
  have hv : Vals (N.map fun q => V.ref q.1) out.toList := by rw [hout]; exact vals_of_refs N
  have J : Inv X pins σ (upd H p (.lst (N.map fun q => V.ref q.1))) { s with heap := s'.heap, gens := s'.gens, drawn := s'.drawn, toks := s'.toks } := I.call (ch := []) (Un.laid k hp hn) (I.hok.laid k hp ⟨hlen, out.toList, c, hv, hg⟩) (by rw [g]; exact I.bare) (fun _ z => nomatch z)
  have e : s' = { s with heap := s'.heap, gens := s'.gens, drawn := s'.drawn, toks := s'.toks } := by cases s'; cases s; cases o; rfl
  rw [e]
  exact ⟨.ref p, _, J, rfl, q N p pm ((pm.map (·.2)).nodup_iff.mpr R.nd) few1 pw hn⟩
end
end L2
namespace PL
open PySem PySem.Spec PyProof.Rows L2 PySem.W
/-- rows in a heap: their addresses -/
theorem rows_keys {Hm : Hp} : ∀ {xs : List V} {rows : List (List Int)}, RpA Hm xs (rows.map rowD) → ∃ ks : List (Addr × List Int), xs = ks.map (fun p => V.ref p.1) ∧ rows = ks.map (·.2) ∧ ∀ p ∈ ks, Rp Hm (.ref p.1) (rowD p.2) ∧ Hm p.1 = some (.tup (p.2.map V.int))
  | _, [], h => by cases h; exact ⟨[], rfl, rfl, fun p hp => by cases hp⟩
  | _, r :: rows, h => by
    cases h with
    | cons h1 h2 =>
      obtain ⟨ks, e1, e2, e3⟩ := rows_keys h2
      have h1' := h1
      cases h1 with
      | tup g1 g2 g3 =>
        rename_i a xs'
        refine ⟨(a, r) :: ks, by rw [List.map_cons, e1], by rw [List.map_cons, ← e2], fun p hp => ?_⟩
        rcases List.mem_cons.mp hp with e | e
        · rw [e]
          refine ⟨h1', ?_⟩
          show Hm a = some (.tup (r.map V.int))
          rw [← g3.ints]; exact g1
        · exact e3 p e
theorem rpA_keys {Hm : Hp} : ∀ N : List (Addr × List Int), (∀ p ∈ N, Rp Hm (.ref p.1) (rowD p.2)) → RpA Hm (N.map fun p => V.ref p.1) ((N.map (·.2)).map rowD)
  | [], _ => .nil
  | p :: N, h => .cons (h p List.mem_cons_self) (rpA_keys N fun q hq => h q (List.mem_cons_of_mem _ hq))
theorem ev_sortedSetL {X : Cx} {ρ : List SD} {a : Expr} {p p2 q pos : Pos} {n : Nat} {rows ms : List (List Int)} (hc : X.calm = true) (hr : Room n X.A) (hg : Gl X "sorted") (hm : X.mg "sorted" = none) (hg2 : Gl X "set") (hm2 : X.mg "set" = none) (ha : Ev X ρ a (.list (rows.map rowD)))
    (few : ∀ t : List (List Int), t.Nodup → (∀ r ∈ t, r ∈ rows) → t.length + 1 < 64) (ne : ∀ r ∈ rows, r ≠ []) (hms : ms.Pairwise fun a b => ¬ b < a) (hnd : ms.Nodup) (hmem : ∀ r, r ∈ ms ↔ r ∈ rows)
    (h1 : starEach [a] X.env = (false, eval a X.env) :: starEach [] X.env := by rfl) (h2 : starEach [.Call (.Name "set" p2) [a] [] q] X.env = (false, eval (.Call (.Name "set" p2) [a] [] q) X.env) :: starEach [] X.env := by rfl) :
    Ev X ρ (.Call (.Name "sorted" p) [.Call (.Name "set" p2) [a] [] q] [] pos) (.list (ms.map rowD)) := by
  refine pe_imp (pe_callB (cr_sortRows hc (room65 hr)) hg hm (by decide +kernel) (pa_cons (pe_callTy (cr_setRows hc (by have := hr.un; omega)) hg2 hm2 (by decide +kernel) (ea_cons ha ea_nil h1) (by decide) (by decide) h1 rfl) pa_nil h2) (by decide) (by decide) h2 rfl) fun σ H Q ⟨F, O0, O1, s, k⟩ => ?_
  refine ⟨F, O0, O1, s, fun vs ds H1 s1 e1 hd r1 => ?_⟩
  subst hd
  obtain ⟨v, rfl, r2⟩ := rpA1 r1
  cases r2 with
  | lst g1 g2 g3 =>
    rename_i l xs
    obtain ⟨ks, rfl, ek, hk⟩ := rows_keys g3
    refine ⟨l, ks, rfl, SqL.of (msk_some g1).2, fun p hp => SqT.of (msk_some (hk p hp).2).2, fun i M hi g nd => ?_, fun p M hp sub all => ?_⟩
    · have := few (M.map (·.2)) nd fun r hr' => by
        obtain ⟨y, hy, rfl⟩ := List.mem_map.mp hr'
        rw [ek]
        exact List.mem_map.mpr ⟨y, List.mem_of_mem_take (g.sub y hy), rfl⟩
      rw [List.length_map] at this
      exact this
    · have s2 := s1.ex (Ex.new (o := SetTO X.prog X.w p M) hp)
      refine ⟨p, M, rfl, upd_same .., fun y hy => ?_, fun y hy => ?_, fun N p' pm nd few1 pw hp' => ?_⟩
      · exact SqT.of (by
          have h3 := (msk_some (hk y (sub y hy)).2).2
          rw [upd_ne (ne_of_none h3 hp)]; exact h3)
      · exact ne _ (by rw [ek]; exact List.mem_map.mpr ⟨y, sub y hy, rfl⟩)
      · have hN : ∀ y ∈ N, y ∈ ks := fun y hy => sub y (pm.mem_iff.mp hy)
        have e : N.map (·.2) = ms := by
          refine List.Perm.eq_of_pairwise (le := fun a b => ¬ b < a) (fun a b _ _ h1 h2 => ?_) (List.pairwise_map.mpr pw) hms ((List.perm_ext_iff_of_nodup nd hnd).mpr fun r => ?_)
          · rcases Mus.lt_tri a b with h | h | h
            · exact absurd h h2
            · exact h
            · exact absurd h h1
          · rw [hmem r, ek]
            constructor
            · intro h
              obtain ⟨y, hy, rfl⟩ := List.mem_map.mp h
              exact List.mem_map.mpr ⟨y, hN y hy, rfl⟩
            · intro h
              obtain ⟨y, hy, rfl⟩ := List.mem_map.mp h
              obtain ⟨z, hz, ez⟩ := List.mem_map.mp (all y hy)
              exact List.mem_map.mpr ⟨z, pm.mem_iff.mpr hz, ez⟩
        have ex : Ex H1 (upd (upd H1 p (SetTO X.prog X.w p M)) p' (.lst (N.map fun y => V.ref y.1))) := (Ex.new hp).trans (Ex.new hp')
        refine (s1.kt e1 k) (.ref p') (.list (ms.map rowD)) _ ex rfl (.lst (msk_upd ((s2.al).out hp')) (by rw [List.length_map, ← e, List.length_map]; show N.length ≤ 4096; omega) ?_)
        rw [← e]
        exact (rpA_keys N fun y hy => (hk y (hN y hy)).1).mono ex.msk
end PL

namespace Mus
open PySem PySem.Spec PyProof.Rows L2 PL
/-! ## k08: clashes apart, level by level -/
def badRows (p : Plan) : List (List Int) := (subs p.wishes.length).filter fun r => !good p r
def lessOf (p : Plan) (r : List Int) : List (List Int) := (badRows p).filter fun o => decide (o ≠ r) && (o.filter fun x => decide (x ∉ r)).isEmpty
def minRows (p : Plan) : List (List Int) := (badRows p).filter fun r => (lessOf p r).isEmpty
theorem mem_bad {p : Plan} {r : List Int} : r ∈ badRows p ↔ SomeOk p r ∧ good p r = false := by
  unfold badRows
  rw [List.mem_filter, subs_some, Bool.not_eq_true']
theorem nil_within (o r : List Int) : (o.filter fun x => decide (x ∉ r)).isEmpty = within o r := by
  unfold within
  rw [Bool.eq_iff_iff, List.isEmpty_iff, List.filter_eq_nil_iff, List.all_eq_true]
  simp
theorem mem_min {p : Plan} (hp : p.Ok) {r : List Int} : r ∈ minRows p ↔ SomeOk p r ∧ isClash p r = true := by
  unfold minRows lessOf
  rw [List.mem_filter, mem_bad, List.isEmpty_iff, List.filter_eq_nil_iff]
  constructor
  · rintro ⟨⟨hs, hb⟩, h⟩
    refine ⟨hs, isClash_iff.mpr ⟨hb, fun i hi => ?_⟩⟩
    cases q : good p (less r i) with
    | true => rfl
    | false =>
      exfalso
      have ll := less_len hi
      refine h (less r i) (mem_bad.mpr ⟨hs.sub (less_sub r i), q⟩) ?_
      rw [Bool.and_eq_true, decide_eq_true_iff, nil_within, within_iff]
      exact ⟨fun e => by rw [e] at ll; omega, fun x hx => (less_sub r i).subset hx⟩
  · rintro ⟨hs, hc⟩
    refine ⟨⟨hs, (isClash_iff.mp hc).1⟩, fun o ho z => ?_⟩
    rw [Bool.and_eq_true, decide_eq_true_iff, nil_within] at z
    obtain ⟨h1, h2⟩ := mem_bad.mp ho
    have := clash_part hp hs hc ((within_sub h1 hs).mp z.2) z.1
    rw [h2] at this; cases this
theorem bad_len {p : Plan} : (badRows p).length ≤ 2 ^ p.wishes.length := by
  unfold badRows
  refine Nat.le_trans (List.length_filter_le ..) ?_
  rw [subs_len]; exact Nat.le_refl _
theorem min_len {p : Plan} : (minRows p).length ≤ 2 ^ p.wishes.length := Nat.le_trans (List.length_filter_le ..) bad_len
/-- no entry in common -/
def Dj (a b : List Int) : Prop := ∀ x ∈ a, x ∉ b
theorem Dj.symm {a b : List Int} (h : Dj a b) : Dj b a := fun x hx hy => h x hy hx
def djB (used row : List Int) : Bool := (row.filter fun x => decide (x ∈ used)).isEmpty
theorem djB_iff {u r : List Int} : djB u r = true ↔ Dj r u := by
  unfold djB Dj
  rw [List.isEmpty_iff, List.filter_eq_nil_iff]
  simp
def stepRow (R : List (List Int)) (u : List Int) : List (List Int) := (R.filter fun r => djB u r).map fun r => sortI (u ++ r)
def further (R L : List (List Int)) : List (List Int) := L.flatMap (stepRow R)
def nextL (n : Nat) (R L : List (List Int)) : List (List Int) := sortR ((subs n).filter fun r => decide (r ∈ further R L))
def levels (n : Nat) (R : List (List Int)) : Nat → List (List Int)
  | 0 => [[]]
  | j + 1 => nextL n R (levels n R j)
/-- disjoint rows, so many, and what they hold together -/
def Pk (R : List (List Int)) (j : Nat) (l : List (List Int)) : Prop := l.length = j ∧ (∀ r ∈ l, r ∈ R) ∧ l.Pairwise Dj
def PkU (R : List (List Int)) (j : Nat) (u : List Int) : Prop := ∃ l, Pk R j l ∧ asc u = true ∧ ∀ x, x ∈ u ↔ ∃ r ∈ l, x ∈ r
theorem sortI_perm (l : List Int) : (sortI l).Perm l := List.mergeSort_perm ..
theorem sortI_asc {l : List Int} (h : l.Nodup) : asc (sortI l) = true := by
  have hs := List.pairwise_mergeSort (le := fun a b : Int => !decide (b < a)) (fun a b c h1 h2 => by
    simp only [Bool.not_eq_true', decide_eq_false_iff_not] at h1 h2 ⊢
    omega) (fun a b => by
    rw [Bool.or_eq_true]
    simp only [Bool.not_eq_true', decide_eq_false_iff_not]
    omega) l
  have hn : (sortI l).Nodup := (sortI_perm l).nodup_iff.mpr h
  rw [asc_iff]
  exact (List.Pairwise.and hs hn).imp fun {a b} ⟨h1, h2⟩ => by
    simp only [Bool.not_eq_true', decide_eq_false_iff_not] at h1
    have h2' : a ≠ b := h2
    omega
theorem union_asc {u r : List Int} (hu : asc u = true) (hr : asc r = true) (d : Dj r u) : asc (sortI (u ++ r)) = true :=
  sortI_asc (List.nodup_append.mpr ⟨asc_nodup hu, asc_nodup hr, fun a ha b hb e => d b hb (by rw [← e]; exact ha)⟩)
section
variable {n : Nat} {R : List (List Int)} (hR : ∀ r ∈ R, asc r = true ∧ ∀ x ∈ r, 0 ≤ x ∧ x < (n : Int))
include hR
theorem mem_levels : ∀ (j : Nat) (u : List Int), u ∈ levels n R j ↔ PkU R j u
  | 0, u => by
    unfold levels
    rw [List.mem_singleton]
    constructor
    · rintro rfl
      exact ⟨[], ⟨rfl, by simp, List.Pairwise.nil⟩, rfl, by simp⟩
    · rintro ⟨l, ⟨h1, _, _⟩, _, h2⟩
      have : l = [] := List.eq_nil_of_length_eq_zero h1
      subst this
      cases u with
      | nil => rfl
      | cons x u =>
        obtain ⟨r, hr, _⟩ := (h2 x).mp List.mem_cons_self
        cases hr
  | j + 1, u => by
    have ih := mem_levels j
    show u ∈ nextL n R (levels n R j) ↔ _
    unfold nextL further
    rw [sortR_mem, List.mem_filter, decide_eq_true_iff, List.mem_flatMap]
    constructor
    · rintro ⟨_, v, hv, hu⟩
      obtain ⟨r, hr, rfl⟩ := List.mem_map.mp hu
      obtain ⟨hr1, hr2⟩ := List.mem_filter.mp hr
      rw [djB_iff] at hr2
      obtain ⟨l, ⟨h1, h2, h3⟩, h4, h5⟩ := (ih v).mp hv
      refine ⟨r :: l, ⟨by rw [List.length_cons, h1], fun t ht => ?_, List.pairwise_cons.mpr ⟨fun t ht x hx hy => ?_, h3⟩⟩, union_asc h4 (hR r hr1).1 hr2, fun x => ?_⟩
      · rcases List.mem_cons.mp ht with e | e
        · rw [e]; exact hr1
        · exact h2 t e
      · exact hr2 x hx ((h5 x).mpr ⟨t, ht, hy⟩)
      · rw [(sortI_perm _).mem_iff, List.mem_append, h5 x]
        constructor
        · rintro (⟨t, ht, hx⟩ | hx)
          · exact ⟨t, List.mem_cons_of_mem _ ht, hx⟩
          · exact ⟨r, List.mem_cons_self, hx⟩
        · rintro ⟨t, ht, hx⟩
          rcases List.mem_cons.mp ht with e | e
          · rw [← e]; exact .inr hx
          · exact .inl ⟨t, e, hx⟩
    · rintro ⟨l, ⟨h1, h2, h3⟩, h4, h5⟩
      cases l with
      | nil => cases h1
      | cons r l =>
        obtain ⟨p1, p2⟩ := List.pairwise_cons.mp h3
        have hr := h2 r List.mem_cons_self
        have inr : ∀ x, (∃ t ∈ l, x ∈ t) → 0 ≤ x ∧ x < (n : Int) := fun x ⟨t, ht, hx⟩ => (hR t (h2 t (List.mem_cons_of_mem _ ht))).2 x hx
        have hmv : ∀ x, x ∈ ((rangeD 0 n).filter fun x => l.any fun t => decide (x ∈ t)) ↔ ∃ t ∈ l, x ∈ t := fun x => by
          rw [List.mem_filter, rangeD_mem, List.any_eq_true]
          constructor
          · rintro ⟨_, t, ht, hx⟩; exact ⟨t, ht, of_decide_eq_true hx⟩
          · rintro ⟨t, ht, hx⟩
            have := inr x ⟨t, ht, hx⟩
            exact ⟨by omega, t, ht, decide_eq_true hx⟩
        have hav : asc ((rangeD 0 n).filter fun x => l.any fun t => decide (x ∈ t)) = true := asc_sub List.filter_sublist (asc_range _ _)
        generalize ((rangeD 0 n).filter fun x => l.any fun t => decide (x ∈ t)) = v at hmv hav
        have dv : Dj r v := fun x hx hy => by
          obtain ⟨t, ht, hxt⟩ := (hmv x).mp hy
          exact p1 t ht x hx hxt
        have eu : sortI (v ++ r) = u := asc_ext (union_asc hav (hR r hr).1 dv) h4 fun x => by
          rw [(sortI_perm _).mem_iff, List.mem_append, hmv x, h5 x]
          constructor
          · rintro (⟨t, ht, hx⟩ | hx)
            · exact ⟨t, List.mem_cons_of_mem _ ht, hx⟩
            · exact ⟨r, List.mem_cons_self, hx⟩
          · rintro ⟨t, ht, hx⟩
            rcases List.mem_cons.mp ht with e | e
            · rw [← e]; exact .inr hx
            · exact .inl ⟨t, e, hx⟩
        refine ⟨mem_subs.mpr ⟨h4, fun x hx => ?_⟩, v, (ih v).mpr ⟨l, ⟨by simpa using h1, fun t ht => h2 t (List.mem_cons_of_mem _ ht), p2⟩, hav, hmv⟩, List.mem_map.mpr ⟨r, List.mem_filter.mpr ⟨hr, djB_iff.mpr dv⟩, eu⟩⟩
        obtain ⟨t, ht, hx⟩ := (h5 x).mp hx
        exact (hR t (h2 t ht)).2 x hx
theorem further_sub {j : Nat} {u : List Int} (h : u ∈ further R (levels n R j)) : u ∈ subs n := by
  unfold further at h
  obtain ⟨v, hv, hu⟩ := List.mem_flatMap.mp h
  obtain ⟨r, hr, rfl⟩ := List.mem_map.mp hu
  obtain ⟨hr1, hr2⟩ := List.mem_filter.mp hr
  rw [djB_iff] at hr2
  obtain ⟨l, ⟨_, h2, _⟩, h4, h5⟩ := (mem_levels hR j v).mp hv
  refine mem_subs.mpr ⟨union_asc h4 (hR r hr1).1 hr2, fun x hx => ?_⟩
  rw [(sortI_perm _).mem_iff, List.mem_append] at hx
  rcases hx with hx | hx
  · obtain ⟨t, ht, hxt⟩ := (h5 x).mp hx
    exact (hR t (h2 t ht)).2 x hxt
  · exact (hR r hr1).2 x hx
theorem further_mem {j : Nat} {u : List Int} : u ∈ levels n R (j + 1) ↔ u ∈ further R (levels n R j) := by
  show u ∈ nextL n R (levels n R j) ↔ _
  unfold nextL
  rw [sortR_mem, List.mem_filter, decide_eq_true_iff]
  exact ⟨fun h => h.2, fun h => ⟨further_sub hR h, h⟩⟩
theorem level_ne {j : Nat} : levels n R j ≠ [] ↔ ∃ l, Pk R j l := by
  constructor
  · intro h
    obtain ⟨u, hu⟩ := List.exists_mem_of_ne_nil _ h
    obtain ⟨l, hl, _⟩ := (mem_levels hR j u).mp hu
    exact ⟨l, hl⟩
  · rintro ⟨l, hl⟩
    have hu : ((rangeD 0 n).filter fun x => l.any fun t => decide (x ∈ t)) ∈ levels n R j := (mem_levels hR j _).mpr ⟨l, hl, asc_sub List.filter_sublist (asc_range _ _), fun x => by
      rw [List.mem_filter, rangeD_mem, List.any_eq_true]
      constructor
      · rintro ⟨_, t, ht, hx⟩; exact ⟨t, ht, of_decide_eq_true hx⟩
      · rintro ⟨t, ht, hx⟩
        have := (hR t (hl.2.1 t ht)).2 x hx
        exact ⟨by omega, t, ht, decide_eq_true hx⟩⟩
    exact List.ne_nil_of_mem hu
end
theorem level_srtd (n : Nat) (R : List (List Int)) (j : Nat) : (levels n R (j + 1)).Pairwise (fun a b => ¬ b < a) ∧ (levels n R (j + 1)).Nodup := by
  show (nextL n R (levels n R j)).Pairwise _ ∧ (nextL n R (levels n R j)).Nodup
  unfold nextL
  exact ⟨sortR_sorted _, (sortR_perm _).nodup_iff.mpr ((subs_nodup n).filter _)⟩
theorem level_len (n : Nat) (R : List (List Int)) (j : Nat) : (levels n R j).length ≤ 2 ^ n := by
  cases j with
  | zero => exact Nat.one_le_two_pow
  | succ j =>
    show (nextL n R (levels n R j)).length ≤ _
    unfold nextL
    rw [sortR_len]
    refine Nat.le_trans (List.length_filter_le ..) ?_
    rw [subs_len]; exact Nat.le_refl _
/-- most_apart is the greatest number of disjoint rows -/
theorem pack_le : ∀ (k : Nat) (L l : List (List Int)), L.length ≤ k → l.Pairwise Dj → (∀ r ∈ l, r ∈ L ∧ r ≠ []) → l.length ≤ mostApart L
  | k, [], l, _, _, h => by
    cases l with
    | nil => exact Nat.zero_le _
    | cons r l => cases (h r List.mem_cons_self).1
  | 0, a :: L, l, hk, _, _ => by simp at hk
  | k + 1, a :: L, l, hk, hd, h => by
    rw [List.length_cons] at hk
    rw [mostApart_cons]
    by_cases c : a ∈ l
    · have pm := List.perm_cons_erase c
      have hd2 : (a :: l.erase a).Pairwise Dj := (pm.pairwise_iff fun {x y} e => e.symm).mp hd
      obtain ⟨q1, q2⟩ := List.pairwise_cons.mp hd2
      have ne : a ≠ [] := (h a c).2
      have := pack_le k (free a L) (l.erase a) (Nat.le_trans (List.length_filter_le ..) (by omega)) q2 fun r hr => by
        obtain ⟨h1, h2⟩ := h r (List.mem_of_mem_erase hr)
        refine ⟨?_, h2⟩
        have dj := q1 r hr
        rcases List.mem_cons.mp h1 with e | e
        · exfalso
          cases hr' : r with
          | nil => exact h2 hr'
          | cons x t =>
            have hx : x ∈ r := by rw [hr']; exact List.mem_cons_self
            exact dj x (by rw [← e]; exact hx) hx
        · unfold free
          refine List.mem_filter.mpr ⟨e, ?_⟩
          rw [Bool.not_eq_true', Bool.eq_false_iff]
          intro z
          obtain ⟨x, hx, hx2⟩ := List.any_eq_true.mp z
          exact dj x (of_decide_eq_true hx2) hx
      have e1 : l.length = (l.erase a).length + 1 := by rw [pm.length_eq, List.length_cons]
      omega
    · have := pack_le k L l (by omega) hd fun r hr => by
        obtain ⟨h1, h2⟩ := h r hr
        rcases List.mem_cons.mp h1 with e | e
        · exact absurd hr (by rw [e]; exact c)
        · exact ⟨e, h2⟩
      omega
theorem pack_ex : ∀ (k : Nat) (L : List (List Int)), L.length ≤ k → ∃ l : List (List Int), l.length = mostApart L ∧ l.Pairwise Dj ∧ ∀ r ∈ l, r ∈ L
  | k, [], _ => ⟨[], rfl, List.Pairwise.nil, by simp⟩
  | 0, a :: L, hk => by simp at hk
  | k + 1, a :: L, hk => by
    rw [List.length_cons] at hk
    rw [mostApart_cons]
    obtain ⟨l1, e1, d1, m1⟩ := pack_ex k L (by omega)
    obtain ⟨l2, e2, d2, m2⟩ := pack_ex k (free a L) (Nat.le_trans (List.length_filter_le ..) (by omega))
    by_cases c : mostApart L ≤ 1 + mostApart (free a L)
    · refine ⟨a :: l2, by rw [List.length_cons, e2]; omega, List.pairwise_cons.mpr ⟨fun r hr x hx hy => ?_, d2⟩, fun r hr => ?_⟩
      · have h2 := (List.mem_filter.mp (m2 r hr)).2
        rw [Bool.not_eq_true', Bool.eq_false_iff] at h2
        exact h2 (List.any_eq_true.mpr ⟨x, hy, decide_eq_true hx⟩)
      · rcases List.mem_cons.mp hr with e | e
        · rw [e]; exact List.mem_cons_self
        · exact List.mem_cons_of_mem _ (List.mem_filter.mp (m2 r e)).1
    · exact ⟨l1, by omega, d1, fun r hr => List.mem_cons_of_mem _ (m1 r hr)⟩
theorem min_asc {p : Plan} (hp : p.Ok) : ∀ r ∈ minRows p, asc r = true ∧ ∀ x ∈ r, 0 ≤ x ∧ x < (p.wishes.length : Int) := fun r hr => by
  have h := ((mem_min hp).mp hr).1
  exact ⟨h.as, fun x hx => ⟨h.lo x hx, h.hi x hx⟩⟩
theorem min_ne {p : Plan} (hp : p.Ok) {r : List Int} (hr : r ∈ minRows p) : r ≠ [] := clash_ne hp ((mem_min hp).mp hr).2
theorem level_most {p : Plan} (hp : p.Ok) (j : Nat) : levels p.wishes.length (minRows p) j ≠ [] ↔ j ≤ mostApart (clashesOf p) := by
  have same : ∀ r, r ∈ minRows p ↔ r ∈ clashesOf p := fun r => by rw [mem_min hp, mem_clashes]
  rw [level_ne (min_asc hp)]
  constructor
  · rintro ⟨l, h1, h2, h3⟩
    rw [← h1]
    exact pack_le _ _ _ (Nat.le_refl _) h3 fun r hr => ⟨(same r).mp (h2 r hr), min_ne hp (h2 r hr)⟩
  · intro h
    obtain ⟨l, e, d, m⟩ := pack_ex _ (clashesOf p) (Nat.le_refl _)
    refine ⟨l.take j, by rw [List.length_take]; omega, fun r hr => (same r).mpr (m r (List.mem_of_mem_take hr)), d.sublist (List.take_sublist _ _)⟩
/-- a level of plans of six wishes has less than 63 rows -/
theorem level_few {p : Plan} (hp : p.Ok) (h6 : p.wishes.length ≤ 6) (j : Nat) (t : List (List Int)) (ht : t.Nodup) (hm : ∀ r ∈ t, r ∈ further (minRows p) (levels p.wishes.length (minRows p) j)) : t.length + 1 < 64 := by
  have hR := min_asc hp
  have h1 : ∀ r ∈ t, PkU (minRows p) (j + 1) r := fun r hr => (mem_levels hR _ r).mp ((further_mem hR).mpr (hm r hr))
  have h2 : ∀ r ∈ t, r ∈ subs p.wishes.length := fun r hr => further_sub hR (hm r hr)
  have p6 : 2 ^ p.wishes.length ≤ 2 ^ 6 := Nat.pow_le_pow_right (by decide) h6
  by_cases c : p.wishes.length ≤ 1
  · have a := ht.length_le_of_subset (l₂ := subs p.wishes.length) h2
    rw [subs_len] at a
    have : 2 ^ p.wishes.length ≤ 2 ^ 1 := Nat.pow_le_pow_right (by decide) c
    omega
  · have nil : [] ∉ t := fun z => by
      obtain ⟨l, ⟨l1, l2, _⟩, _, l4⟩ := h1 _ z
      cases l with
      | nil => cases l1
      | cons r l =>
        have hr := l2 r List.mem_cons_self
        cases hr' : r with
        | nil => exact min_ne hp hr hr'
        | cons x s =>
          have := (l4 x).mpr ⟨r, List.mem_cons_self, by rw [hr']; exact List.mem_cons_self⟩
          cases this
    have zero : ∀ {r : List Int} {l : List (List Int)}, r ∈ minRows p → r ∈ l → (∀ x, x ∈ ([0] : List Int) ↔ ∃ r ∈ l, x ∈ r) → r = [0] := fun {r l} hr hl h => by
      have sub : ∀ x ∈ r, x = 0 := fun x hx => by have := (h x).mpr ⟨r, hl, hx⟩; simpa using this
      refine asc_ext (hR r hr).1 rfl fun x => ⟨fun hx => by rw [sub x hx]; simp, fun hx => ?_⟩
      have e : x = 0 := by simpa using hx
      cases hr' : r with
      | nil => exact absurd hr' (min_ne hp hr)
      | cons y s =>
        have : y = 0 := sub y (by rw [hr']; exact List.mem_cons_self)
        rw [e, ← this]; exact List.mem_cons_self
    have key : ¬ ([0] ∈ t ∧ [0, 1] ∈ t) := by
      rintro ⟨z1, z2⟩
      obtain ⟨l, ⟨l1, l2, l3⟩, _, l4⟩ := h1 _ z1
      cases l with
      | nil => cases l1
      | cons r l =>
        have e := zero (l2 r List.mem_cons_self) List.mem_cons_self l4
        cases l with
        | cons b l =>
          have eb := zero (l2 b (by simp)) (by simp) l4
          have := (List.pairwise_cons.mp l3).1 b List.mem_cons_self
          rw [e, eb] at this
          exact this 0 (by simp) (by simp)
        | nil =>
          have j0 : j = 0 := by simpa using l1.symm
          obtain ⟨m, ⟨m1, m2, _⟩, _, m4⟩ := h1 _ z2
          rw [j0] at m1
          match m, m1 with
          | [b], _ =>
            have hb := m2 b List.mem_cons_self
            have eb : b = [0, 1] := asc_ext (hR b hb).1 rfl fun x => by
              rw [m4 x]; simp
            have c1 := (mem_min hp).mp (l2 r List.mem_cons_self)
            have c2 := (mem_min hp).mp hb
            rw [e] at c1
            rw [eb] at c2
            have g := clash_part hp c2.1 c2.2 (t := [0]) (by decide) (by decide)
            rw [(isClash_iff.mp c1.2).1] at g
            cases g
    have i0 : ([0] : List Int) ∈ subs p.wishes.length := mem_subs.mpr ⟨rfl, fun x hx => by
      have e : x = 0 := List.mem_singleton.mp hx
      omega⟩
    have i1 : ([0, 1] : List Int) ∈ subs p.wishes.length := mem_subs.mpr ⟨rfl, fun x hx => by
      have e : x = 0 ∨ x = 1 := by simpa using hx
      omega⟩
    have i2 : ([] : List Int) ∈ subs p.wishes.length := mem_subs.mpr ⟨rfl, fun x hx => by cases hx⟩
    obtain ⟨y, hy, hyt, hyn⟩ : ∃ y, y ∈ subs p.wishes.length ∧ y ∉ t ∧ y ≠ [] := by
      by_cases d : [0] ∈ t
      · exact ⟨[0, 1], i1, fun z => key ⟨d, z⟩, by simp⟩
      · exact ⟨[0], i0, d, by simp⟩
    have nd : ([] :: y :: t).Nodup := by
      rw [List.nodup_cons, List.nodup_cons]
      refine ⟨fun z => ?_, hyt, ht⟩
      rcases List.mem_cons.mp z with e | e
      · exact hyn e.symm
      · exact nil e
    have a := nd.length_le_of_subset (l₂ := subs p.wishes.length) fun r hr => by
      rcases List.mem_cons.mp hr with e | hr
      · rw [e]; exact i2
      · rcases List.mem_cons.mp hr with e | hr
        · rw [e]; exact hy
        · exact h2 r hr
    rw [subs_len, List.length_cons, List.length_cons] at a
    omega
theorem further_ne {p : Plan} (hp : p.Ok) {j : Nat} {r : List Int} (h : r ∈ further (minRows p) (levels p.wishes.length (minRows p) j)) : r ≠ [] := by
  have hR := min_asc hp
  obtain ⟨l, ⟨l1, l2, _⟩, _, l4⟩ := (mem_levels hR _ r).mp ((further_mem hR).mpr h)
  intro z
  subst z
  cases l with
  | nil => cases l1
  | cons r l =>
    have hr := l2 r List.mem_cons_self
    cases hr' : r with
    | nil => exact min_ne hp hr hr'
    | cons x s =>
      have := (l4 x).mpr ⟨r, List.mem_cons_self, by rw [hr']; exact List.mem_cons_self⟩
      cases this
def manyAt (p : Plan) (j : Nat) : Nat := min j (mostApart (clashesOf p))
theorem stepRow_len (R : List (List Int)) (u : List Int) : (stepRow R u).length ≤ R.length := by
  unfold stepRow
  rw [List.length_map]
  exact List.length_filter_le ..
def c_law_packed : Ct := ⟨Plan, fun p => [eP p], fun p => p.Ok ∧ p.wishes.length ≤ 6, fun p => Eq (.int (mostApart (clashesOf p) : Nat))⟩
def c_law_judged : Ct := ⟨Plan, fun p => [eP p, eLT (largest p)], fun p => p.Ok, fun _ => Eq (.bool true)⟩
theorem head_sortR {l : List (List Int)} (h : l ≠ []) : ∃ m l', sortR l = m :: l' ∧ headMin (fun a b => decide (a < b)) l = some m := by
  have tr : ∀ a b c : List Int, decide (a < b) = false → decide (b < c) = false → decide (a < c) = false := fun a b c h1 h2 => by
    rw [decide_eq_false_iff_not, List.not_lt] at h1 h2 ⊢
    exact List.le_trans h2 h1
  have as : ∀ a b : List Int, decide (a < b) = true → decide (b < a) = false := fun a b h => by
    rw [decide_eq_true_iff] at h
    rw [decide_eq_false_iff_not]
    exact List.lt_asymm h
  have ir : ∀ a : List Int, decide (a < a) = false := fun a => decide_eq_false (List.lt_irrefl a)
  cases q : sortR l with
  | nil =>
    have := sortR_len l
    rw [q] at this
    exact absurd (List.eq_nil_of_length_eq_zero this.symm) h
  | cons m l' =>
    refine ⟨m, l', rfl, ?_⟩
    have hs := sortR_sorted l
    rw [q] at hs
    cases hm : headMin (fun a b : List Int => decide (a < b)) l with
    | none => rw [headMin_none] at hm; exact absurd hm h
    | some m' =>
      have h1 := headMin_le tr as ir hm m (sortR_mem.mp (by rw [q]; exact List.mem_cons_self))
      have h2 : ¬ m' < m := by
        have hm' : m' ∈ sortR l := sortR_mem.mpr (headMin_some hm)
        rw [q] at hm'
        rcases List.mem_cons.mp hm' with e | e
        · rw [e]; exact List.lt_irrefl m
        · exact (List.pairwise_cons.mp hs).1 m' e
      rw [decide_eq_false_iff_not] at h1
      rcases lt_tri m m' with e | e | e
      · exact absurd e h1
      · rw [e]
      · exact absurd e h2
theorem refuse_head {p : Plan} (hp : p.Ok) : ∃ l', sortR ((largest p).map (others p)) = toRefuse p :: l' := by
  obtain ⟨m, l', e1, e2⟩ := head_sortR (l := (largest p).map (others p)) (by
    intro z
    exact largest_ne hp (List.map_eq_nil_iff.mp z))
  refine ⟨l', ?_⟩
  rw [e1]
  unfold toRefuse
  rw [e2]; rfl
theorem others_srt {p : Plan} (hp : p.Ok) : Srt (((largest p).map (others p)).map rowD) := by
  refine srt_rows ?_
  by_cases c : mostGranted p = p.wishes.length
  · right
    have all : ∀ r ∈ largest p, r = rangeD 0 p.wishes.length := fun r hr => by
      obtain ⟨⟨hs, _⟩, hl⟩ := mem_largest.mp hr
      have sub : r.Sublist (rangeD 0 p.wishes.length) := sub_of_mem hs.as (asc_sub (List.Sublist.refl _) (asc_range _ _)) fun x hx => rangeD_mem.mpr ⟨hs.lo x hx, by have := hs.hi x hx; omega⟩
      exact sub.eq_of_length (by rw [rangeD_len]; omega)
    have nd : (largest p).Nodup := (sortR_perm _).nodup_iff.mpr (((subs_nodup _).filter _).filter _)
    rw [List.length_map]
    have := nd.length_le_of_subset (l₂ := [rangeD 0 p.wishes.length]) fun r hr => List.mem_singleton.mpr (all r hr)
    simpa using this
  · left
    intro r hr z
    obtain ⟨g, hg, rfl⟩ := List.mem_map.mp hr
    obtain ⟨⟨hs, _⟩, hl⟩ := mem_largest.mp hg
    have := others_len hs
    rw [z, List.length_nil] at this
    omega
theorem added_own {p : Plan} {s : List Int} (hp : p.Ok) (hs : SomeOk p s) : (others p s).filter (fun x => decide (sortI (s ++ [x]) ∈ goodOnes p)) = added p s := by
  unfold added
  refine List.filter_congr fun x hx => ?_
  obtain ⟨⟨x0, x1⟩, hn⟩ := mem_others.mp hx
  have hs1 : SomeOk p (sortI (s ++ [x])) := by
    refine ⟨fun y hy => ?_, fun y hy => ?_, sortI_asc (List.nodup_append.mpr ⟨asc_nodup hs.as, by simp, fun a ha b hb e => ?_⟩)⟩
    · rw [(sortI_perm _).mem_iff, List.mem_append] at hy
      rcases hy with h | h
      · exact hs.lo y h
      · rw [List.mem_singleton.mp h]; exact x0
    · rw [(sortI_perm _).mem_iff, List.mem_append] at hy
      rcases hy with h | h
      · exact hs.hi y h
      · rw [List.mem_singleton.mp h]; exact x1
    · rw [List.mem_singleton.mp hb] at e
      exact hn (by rw [← e]; exact ha)
  have e : good p (sortI (s ++ [x])) = areGood p (named p (s ++ [x])) := by
    rw [← good_eq hp hs1]
    refine areGood_perm hp (hs1.gw hp) ?_
    unfold named
    exact (sortI_perm _).map _
  rw [← e, Bool.eq_iff_iff, decide_eq_true_iff, mem_good]
  exact ⟨fun h => h.2, fun h => ⟨hs1, h⟩⟩
def o08 (p : Plan) (s : List Int) : Out := if good p s = true then .val (eT (added p s)) else .err .bad
theorem o08_good {p : Plan} {s : List Int} (g : good p s = true) : o08 p s = .val (eT (added p s)) := if_pos g
theorem o08_bad {p : Plan} {s : List Int} (g : good p s = false) : o08 p s = .err .bad := if_neg (by rw [g]; exact Bool.false_ne_true)
theorem o08_shp (p : Plan) (s : List Int) : SeqAt.shaped (o08 p s).d = true := by
  unfold o08
  split
  · exact (shp_val (en_T.shp _)).ok
  · exact shp_err _
theorem o08_eqv (p : Plan) (s : List Int) : PyData.eqv (o08 p s).d (o08 p s).d = true := by
  unfold o08
  split
  · exact eqv_val (by rw [en_T.eq]; simp)
  · rw [eqv_err]; simp
def oddR08 (p : Plan) : List PyData := [.none, .int (-1), .int (p.wishes.length : Nat), .bool true, .str "0"]
theorem oddR08_bad {p : Plan} (hp : p.Ok) {d : PyData} (h : d ∈ oddR08 p) : badWish (eP p) d .number := by
  refine .inr ⟨rfl, p, hp, rfl, ?_⟩
  simp only [oddR08, List.mem_cons, List.not_mem_nil, or_false] at h
  rcases h with h | h | h | h | h <;> subst h
  · rfl
  · exact between_no (by omega)
  · exact between_no (by omega)
  · rfl
  · rfl
end Mus

namespace PL
open PySem PySem.Spec PyProof.Rows L2
/-! ## things that change: new ones, others at the same places, forgotten ones -/
theorem Sl.repl {Hm H : Hp} {m m' : Mt} (hf : m'.fp = m.fp) : ∀ {ρ : List SD} {σ : Sg} {as : List Addr} {i : Nat}, Sl Hm H ρ σ as → ρ[i]? = some (.mt m) → (∀ v, σ[i]? = some (some v) → m.P Hm H v → m'.P Hm H v) → Sl Hm H (ρ.set i (.mt m')) σ as
  | [], _, _, i, h, e, _ => by simp at e
  | s :: ρ, σ, as, 0, h, e, p => by
    have e' : s = .mt m := Option.some.inj e
    subst e'
    cases h with
    | mt a1 a2 h1 =>
      have := Sl.mt (m := m') (p _ rfl a1) (by rw [hf]; exact a2) h1
      rw [hf] at this
      exact this
  | s :: ρ, σ, as, i + 1, h, e, p => by
    have e' : ρ[i]? = some (.mt m) := by simpa using e
    cases h with
    | un h1 => exact .un (Sl.repl hf h1 e' fun v hv => p v (by simpa using hv))
    | dat r h1 => exact .dat r (Sl.repl hf h1 e' fun v hv => p v (by simpa using hv))
    | own a1 a2 a3 a4 h1 => exact .own a1 a2 a3 a4 (Sl.repl hf h1 e' fun v hv => p v (by simpa using hv))
    | mt a1 a2 h1 => exact .mt a1 a2 (Sl.repl hf h1 e' fun v hv => p v (by simpa using hv))
theorem Sl.dropMt {Hm H : Hp} {m : Mt} : ∀ {ρ : List SD} {σ : Sg} {as : List Addr} {i : Nat}, Sl Hm H ρ σ as → ρ[i]? = some (.mt m) → ∃ as', (∀ b ∈ as', b ∈ as) ∧ Sl Hm H (ρ.set i .un) σ as'
  | [], _, _, i, h, e => by simp at e
  | s :: ρ, σ, as, 0, h, e => by
    have e' : s = .mt m := Option.some.inj e
    subst e'
    cases h with
    | mt a1 a2 h1 => exact ⟨_, fun b hb => List.mem_append_right _ hb, .un h1⟩
  | s :: ρ, σ, as, i + 1, h, e => by
    have e' : ρ[i]? = some (.mt m) := by simpa using e
    cases h with
    | un h1 =>
      obtain ⟨as', q, h2⟩ := Sl.dropMt h1 e'
      exact ⟨as', q, .un h2⟩
    | dat r h1 =>
      obtain ⟨as', q, h2⟩ := Sl.dropMt h1 e'
      exact ⟨as', q, .dat r h2⟩
    | own a1 a2 a3 a4 h1 =>
      obtain ⟨as', q, h2⟩ := Sl.dropMt h1 e'
      exact ⟨_ :: as', fun b hb => (List.mem_cons.mp hb).elim (fun z => by rw [z]; exact List.mem_cons_self) fun z => List.mem_cons_of_mem _ (q b z), .own a1 a2 a3 (fun z => a4 (q _ z)) h2⟩
    | mt a1 a2 h1 =>
      obtain ⟨as', q, h2⟩ := Sl.dropMt h1 e'
      exact ⟨_ ++ as', fun b hb => (List.mem_append.mp hb).elim (List.mem_append_left _) fun z => List.mem_append_right _ (q b z), .mt a1 (fun a ha z => a2 a ha (q _ z)) h2⟩
theorem Sl.setMt {Hm H : Hp} {m : Mt} {v : V} (hp : m.P Hm H v) : ∀ {ρ : List SD} {σ : Sg} {as : List Addr} {i : Nat}, Sl Hm H ρ σ as → plainAt ρ i = true → (∀ a ∈ m.fp, a ∉ as) → ∃ as', Sl Hm H (ρ.set i (.mt m)) (σ.set i (some v)) as' ∧ ∀ a, a ∈ as' ↔ a ∈ m.fp ∨ a ∈ as
  | [], _, _, i, h, e, _ => by simp [plainAt] at e
  | s :: ρ, σ, as, 0, h, pl, hn => by
    obtain ⟨x, r, rfl, h1, _⟩ := h.split pl
    exact ⟨m.fp ++ as, .mt hp hn h1, fun a => List.mem_append⟩
  | s :: ρ, σ, as, i + 1, h, pl, hn => by
    have pl' : plainAt ρ i = true := by simpa [plainAt] using pl
    cases h with
    | un h1 =>
      obtain ⟨as', h2, q⟩ := Sl.setMt hp h1 pl' hn
      exact ⟨as', .un h2, q⟩
    | dat r h1 =>
      obtain ⟨as', h2, q⟩ := Sl.setMt hp h1 pl' hn
      exact ⟨as', .dat r h2, q⟩
    | own a1 a2 a3 a4 h1 =>
      obtain ⟨as', h2, q⟩ := Sl.setMt hp h1 pl' fun a ha z => hn a ha (List.mem_cons_of_mem _ z)
      refine ⟨_ :: as', .own a1 a2 a3 (fun z => ?_) h2, fun b => ?_⟩
      · rcases (q _).mp z with e | e
        · exact hn _ e List.mem_cons_self
        · exact a4 e
      · rw [List.mem_cons, List.mem_cons, q b]
        exact ⟨fun z => z.elim (fun e => .inr (.inl e)) fun z => z.elim .inl fun z => .inr (.inr z), fun z => z.elim (fun e => .inr (.inl e)) fun z => z.elim .inl fun z => .inr (.inr z)⟩
    | mt a1 a2 h1 =>
      obtain ⟨as', h2, q⟩ := Sl.setMt hp h1 pl' fun a ha z => hn a ha (List.mem_append_right _ z)
      refine ⟨_ ++ as', .mt a1 (fun a ha z => ?_) h2, fun b => ?_⟩
      · rcases (q _).mp z with e | e
        · exact hn a e (List.mem_append_left _ ha)
        · exact a2 a ha e
      · rw [List.mem_append, List.mem_append, q b]
        exact ⟨fun z => z.elim (fun e => .inr (.inl e)) fun z => z.elim .inl fun z => .inr (.inr z), fun z => z.elim (fun e => .inr (.inl e)) fun z => z.elim .inl fun z => .inr (.inr z)⟩
section
variable {F H H' : Hp} {O0 O1 : List Addr} {ρ : List SD} {σ : Sg} {i : Nat} {m m' : Mt}
theorem SA.repl (s : SA F O0 O1 ρ σ H) (e : ρ[i]? = some (.mt m)) (hf : m'.fp = m.fp) (p : ∀ v, σ[i]? = some (some v) → m.P (msk (O1 ++ O0) H) H v → m'.P (msk (O1 ++ O0) H) H v) : SA F O0 O1 (ρ.set i (.mt m')) σ H :=
  ⟨s.fr, s.sl.repl hf e p, s.new, s.al0⟩
/-- places alone -/
def fpM (fp : List Addr) : Mt where
  fp := fp
  P := fun _ H _ => ∀ a ∈ fp, H a ≠ none
  mono := fun h _ k a ha => by rw [k a ha]; exact h a ha
  al := fun h => h
theorem SA.chg (s : SA F O0 O1 ρ σ H) (e : ρ[i]? = some (.mt m)) (hf : m'.fp = m.fp) (k : Ex (msk m.fp H) H') (p : ∀ v, σ[i]? = some (some v) → m'.P (msk (O1 ++ O0) H') H' v) (al : ∀ a ∈ m.fp, H' a ≠ none) :
    SA F O0 O1 (ρ.set i (.mt m')) σ H' ∧ Ex (msk (O1 ++ O0) H) (msk (O1 ++ O0) H') := by
  have il : i < ρ.length := (List.getElem?_eq_some_iff.mp e).1
  have s0 := s.repl (m' := fpM m.fp) e rfl fun v _ h => Mt.al m h
  have e0 : (ρ.set i (.mt (fpM m.fp)))[i]? = some (.mt (fpM m.fp)) := by rw [List.getElem?_set_self (by omega)]
  obtain ⟨s1, em⟩ := s0.updMt e0 k fun v hv => al
  have s2 := s1.repl (m' := m') e0 hf fun v hv _ => p v hv
  rw [List.set_set] at s2
  exact ⟨s2, em⟩
theorem SA.dropMt (s : SA F O0 O1 ρ σ H) (e : ρ[i]? = some (.mt m)) : ∃ O, SA F O0 O (ρ.set i .un) σ H ∧ ∀ b ∈ O, b ∈ O1 := by
  obtain ⟨as', q, h⟩ := s.sl.dropMt e
  refine ⟨as', ⟨s.fr, h.mono (Ex.mskSub fun b hb => ?_) (fun _ _ => rfl), fun b hb => s.new b (q b hb), s.al0⟩, q⟩
  exact (List.mem_append.mp hb).elim (fun z => List.mem_append_left _ (q b z)) fun z => List.mem_append_right _ z
theorem SA.setMt {v : V} (s : SA F O0 O1 ρ σ H) (ex : Ex H H') (nw : ∀ a ∈ m.fp, H a = none) (pl : plainAt ρ i = true) (p : ∀ O, (∀ a, a ∈ O ↔ a ∈ m.fp ∨ a ∈ O1) → m.P (msk (O ++ O0) H') H' v) :
    ∃ O, SA F O0 O (ρ.set i (.mt m)) (σ.set i (some v)) H' ∧ ∀ a, a ∈ O ↔ a ∈ m.fp ∨ a ∈ O1 := by
  have hF : ∀ a ∈ m.fp, F a = none := fun a ha => by
    cases w : F a with
    | none => rfl
    | some o => have := s.fr a o w; rw [nw a ha] at this; cases this
  have nO : ∀ a ∈ m.fp, a ∉ O1 ++ O0 := fun a ha z => s.al a z (nw a ha)
  have hOO : ∀ a, a ∈ m.fp ++ O1 ↔ a ∈ m.fp ∨ a ∈ O1 := fun a => List.mem_append
  have em : Ex (msk (O1 ++ O0) H) (msk ((m.fp ++ O1) ++ O0) H') := fun a o h => by
    obtain ⟨z1, z2⟩ := msk_some h
    rw [msk_out fun z => ?_]
    · exact ex a o z2
    · rcases List.mem_append.mp z with z | z
      · rcases List.mem_append.mp z with z | z
        · rw [nw a z] at z2; cases z2
        · exact z1 (List.mem_append_left _ z)
      · exact z1 (List.mem_append_right _ z)
  have ks : ∀ a ∈ O1, H' a = H a := fun a ha => by
    cases w : H a with
    | none => exact absurd w (s.sl.al a ha)
    | some o => exact ex a o w
  obtain ⟨as', h1, q⟩ := (s.sl.mono em ks).setMt (p _ hOO) pl fun a ha z => nO a ha (List.mem_append_left _ z)
  have e2 : msk ((m.fp ++ O1) ++ O0) H' = msk (as' ++ O0) H' := msk_congr (fun a => by
    rw [List.mem_append, List.mem_append, List.mem_append, q a]) H'
  rw [e2] at h1
  refine ⟨as', ⟨s.fr.trans ex, h1, fun a ha => ?_, s.al0.ex ex⟩, q⟩
  rcases (q a).mp ha with z | z
  · exact ⟨hF a z, fun w => nO a z (List.mem_append_right _ w)⟩
  · exact s.new a z
end
theorem hs_dropMt {X : Cx} {ρ : List SD} {P : Po} {rest : List Stmt} {m : Mt} (i : Nat) (h : HSs X rest (ρ.set i .un) P) (hs : ρ[i]? = some (.mt m) := by rfl) : HSs X rest ρ P :=
  pss_imp h fun D σ H ⟨F, O0, O1, s, q⟩ => by
    obtain ⟨O, s', _⟩ := s.dropMt hs
    exact ⟨F, O0, O, s', q⟩
end PL

namespace PL
open PySem PySem.Spec PyProof.Rows L2
/-! ## desks: instances with two lists of their own -/
/-- a thing that changes, and with it its places -/
theorem Sl.moveMt {Hm H Hm' H' : Hp} {m m' : Mt} (e : Ex Hm Hm') : ∀ {ρ : List SD} {σ : Sg} {as : List Addr} {i : Nat}, Sl Hm H ρ σ as → ρ[i]? = some (.mt m) → (∀ v, σ[i]? = some (some v) → m.P Hm H v → m'.P Hm' H' v) → (∀ a ∈ as, a ∉ m.fp → H' a = H a) → (∀ a ∈ m'.fp, a ∈ m.fp ∨ a ∉ as) →
    ∃ as', Sl Hm' H' (ρ.set i (.mt m')) σ as' ∧ ∀ a, a ∈ as' ↔ a ∈ m'.fp ∨ (a ∈ as ∧ a ∉ m.fp)
  | [], _, _, i, _, h, _, _, _ => by simp at h
  | s :: ρ, σ, as, 0, h, ei, p, k, nw => by
    have e' : s = .mt m := Option.some.inj ei
    subst e'
    cases h with
    | mt a1 a2 h1 =>
      rename_i as1 _
      refine ⟨m'.fp ++ as1, Sl.mt (m := m') (p _ rfl a1) (fun a ha z => ?_) (h1.mono e fun a ha => k a (List.mem_append_right _ ha) fun z => a2 a z ha), fun a => ?_⟩
      · rcases nw a ha with q | q
        · exact a2 a q z
        · exact q (List.mem_append_right _ z)
      · rw [List.mem_append, List.mem_append]
        constructor
        · rintro (z | z)
          · exact .inl z
          · exact .inr ⟨.inr z, fun q => a2 a q z⟩
        · rintro (z | ⟨z | z, q⟩)
          · exact .inl z
          · exact absurd z q
          · exact .inr z
  | s :: ρ, σ, as, i + 1, h, ei, p, k, nw => by
    have e' : ρ[i]? = some (.mt m) := by simpa using ei
    cases h with
    | un h1 =>
      obtain ⟨as', h2, q⟩ := Sl.moveMt e h1 e' (fun v hv => p v (by simpa using hv)) k nw
      exact ⟨as', .un h2, q⟩
    | dat r h1 =>
      obtain ⟨as', h2, q⟩ := Sl.moveMt e h1 e' (fun v hv => p v (by simpa using hv)) k nw
      exact ⟨as', .dat (r.mono e) h2, q⟩
    | own b1 b2 b3 b4 h1 =>
      rename_i σ1 as1 a0 xs ds
      obtain ⟨_, _, _, hf⟩ := h1.getM e'
      obtain ⟨as', h2, q⟩ := Sl.moveMt e h1 e' (fun v hv => p v (by simpa using hv)) (fun a ha => k a (List.mem_cons_of_mem _ ha)) (fun a ha => (nw a ha).imp id fun z w => z (List.mem_cons_of_mem _ w))
      have n0 : a0 ∉ m.fp := fun z => b4 (hf _ z)
      refine ⟨a0 :: as', .own (by rw [k a0 List.mem_cons_self n0]; exact b1) b2 (b3.mono e) (fun z => ?_) h2, fun a => ?_⟩
      · rcases (q a0).mp z with w | w
        · rcases nw a0 w with w | w
          · exact n0 w
          · exact w List.mem_cons_self
        · exact b4 w.1
      · rw [List.mem_cons, List.mem_cons, q a]
        constructor
        · rintro (z | z | z)
          · exact .inr ⟨.inl z, by rw [z]; exact n0⟩
          · exact .inl z
          · exact .inr ⟨.inr z.1, z.2⟩
        · rintro (z | ⟨z | z, w⟩)
          · exact .inr (.inl z)
          · exact .inl z
          · exact .inr (.inr ⟨z, w⟩)
    | mt b1 b2 h1 =>
      rename_i as1 v0 m0
      obtain ⟨_, _, _, hf⟩ := h1.getM e'
      obtain ⟨as', h2, q⟩ := Sl.moveMt e h1 e' (fun v hv => p v (by simpa using hv)) (fun a ha => k a (List.mem_append_right _ ha)) (fun a ha => (nw a ha).imp id fun z w => z (List.mem_append_right _ w))
      have n0 : ∀ a ∈ m0.fp, a ∉ m.fp := fun a ha z => b2 a ha (hf _ z)
      refine ⟨m0.fp ++ as', .mt (Mt.mono _ b1 e fun a ha => k a (List.mem_append_left _ ha) (n0 a ha)) (fun a ha z => ?_) h2, fun a => ?_⟩
      · rcases (q a).mp z with w | w
        · rcases nw a w with w | w
          · exact n0 a ha w
          · exact w (List.mem_append_left _ ha)
        · exact b2 a ha w.1
      · rw [List.mem_append, List.mem_append, q a]
        constructor
        · rintro (z | z | z)
          · exact .inr ⟨.inl z, n0 a z⟩
          · exact .inl z
          · exact .inr ⟨.inr z.1, z.2⟩
        · rintro (z | ⟨z | z, w⟩)
          · exact .inr (.inl z)
          · exact .inl z
          · exact .inr (.inr ⟨z, w⟩)
theorem SA.move {F H H' : Hp} {O0 O1 : List Addr} {ρ : List SD} {σ : Sg} {i : Nat} {m m' : Mt} (s : SA F O0 O1 ρ σ H) (e : ρ[i]? = some (.mt m)) (k : Ex (msk m.fp H) H') (nw : ∀ a ∈ m'.fp, a ∈ m.fp ∨ H a = none)
    (p : ∀ v O, (∀ a, a ∈ O ↔ a ∈ m'.fp ∨ (a ∈ O1 ∧ a ∉ m.fp)) → Ex (msk (O1 ++ O0) H) (msk (O ++ O0) H') → σ[i]? = some (some v) → m.P (msk (O1 ++ O0) H) H v → m'.P (msk (O ++ O0) H') H' v) :
    ∃ O, SA F O0 O (ρ.set i (.mt m')) σ H' ∧ Ex (msk (O1 ++ O0) H) (msk (O ++ O0) H') ∧ ∀ a, a ∈ O ↔ a ∈ m'.fp ∨ (a ∈ O1 ∧ a ∉ m.fp) := by
  obtain ⟨v0, q1, q2, q3⟩ := s.getM e
  have hO : ∀ a, a ∈ m'.fp ++ O1.filter (fun a => decide (a ∉ m.fp)) ↔ a ∈ m'.fp ∨ (a ∈ O1 ∧ a ∉ m.fp) := fun a => by
    rw [List.mem_append, List.mem_filter, decide_eq_true_iff]
  generalize m'.fp ++ O1.filter (fun a => decide (a ∉ m.fp)) = On at hO
  have em : Ex (msk (O1 ++ O0) H) (msk (On ++ O0) H') := fun a o h => by
    obtain ⟨z1, z2⟩ := msk_some h
    rw [msk_out fun z => ?_]
    · exact k a o (by rw [msk_out fun w => z1 (List.mem_append_left _ (q3 a w))]; exact z2)
    · rcases List.mem_append.mp z with z | z
      · rcases (hO a).mp z with w | w
        · rcases nw a w with w | w
          · exact z1 (List.mem_append_left _ (q3 a w))
          · rw [w] at z2; cases z2
        · exact z1 (List.mem_append_left _ w.1)
      · exact z1 (List.mem_append_right _ z)
  have ks : ∀ a ∈ O1, a ∉ m.fp → H' a = H a := fun a ha hn => by
    cases w : H a with
    | none => exact absurd w (s.sl.al a ha)
    | some o => exact k a o (by rw [msk_out hn]; exact w)
  obtain ⟨as', h1, q⟩ := s.sl.moveMt em e (fun v hv hp => p v On hO em hv hp) ks fun a ha => (nw a ha).imp id fun z w => s.sl.al a w z
  have hq : ∀ a, a ∈ as' ↔ a ∈ On := fun a => by rw [q a, hO a]
  have e2 : msk (On ++ O0) H' = msk (as' ++ O0) H' := msk_congr (fun a => by
    rw [List.mem_append, List.mem_append, hq a]) H'
  rw [e2] at h1 em
  refine ⟨as', ⟨fun a o h => ?_, h1, fun a ha => ?_, fun a ha => ?_⟩, em, q⟩
  · have hn : a ∉ m.fp := fun z => by rw [(s.new a (q3 a z)).1] at h; cases h
    exact k a o (by rw [msk_out hn]; exact s.fr a o h)
  · rcases (q a).mp ha with w | w
    · rcases nw a w with w | w
      · exact s.new a (q3 a w)
      · refine ⟨?_, fun z => s.al0 a z w⟩
        cases y : F a with
        | none => rfl
        | some o => have := s.fr a o y; rw [w] at this; cases this
    · exact s.new a w.1
  · have hn : a ∉ m.fp := fun z => (s.new a (q3 a z)).2 ha
    intro z
    cases y : H a with
    | none => exact s.al0 a ha y
    | some o => rw [k a o (by rw [msk_out hn]; exact y)] at z; cases z

/-- what a desk holds -/
structure Dsk where
  plan : PyData
  some : PyData
  dn : List PyData
  un : List PyData
def dF (vp vs : V) (l u : Addr) : List (Str × V) := [("plan", vp), ("some", vs), ("done", .ref l), ("undone", .ref u)]
theorem n_sp : (("some" : Str) == "plan") = false := by decide +kernel
theorem n_dp : (("done" : Str) == "plan") = false := by decide +kernel
theorem n_ds : (("done" : Str) == "some") = false := by decide +kernel
theorem n_up : (("undone" : Str) == "plan") = false := by decide +kernel
theorem n_us : (("undone" : Str) == "some") = false := by decide +kernel
theorem n_ud : (("undone" : Str) == "done") = false := by decide +kernel
theorem dF_plan (vp vs : V) (l u : Addr) : (dF vp vs l u).lookup ("plan" : Str) = some vp := by simp only [dF, List.lookup, beq_self_eq_true]
theorem dF_some (vp vs : V) (l u : Addr) : (dF vp vs l u).lookup ("some" : Str) = some vs := by simp only [dF, List.lookup, n_sp, beq_self_eq_true]
theorem dF_done (vp vs : V) (l u : Addr) : (dF vp vs l u).lookup ("done" : Str) = some (.ref l) := by simp only [dF, List.lookup, n_dp, n_ds, beq_self_eq_true]
theorem dF_undone (vp vs : V) (l u : Addr) : (dF vp vs l u).lookup ("undone" : Str) = some (.ref u) := by simp only [dF, List.lookup, n_up, n_us, n_ud, beq_self_eq_true]
def notF (m : Str) : Bool := !(m == ("plan" : Str)) && !(m == ("some" : Str)) && !(m == ("done" : Str)) && !(m == ("undone" : Str))
theorem dF_no (vp vs : V) (l u : Addr) {m : Str} (h : notF m = true) : (dF vp vs l u).lookup m = none := by
  unfold notF at h
  simp only [Bool.and_eq_true, Bool.not_eq_true'] at h
  obtain ⟨⟨⟨h1, h2⟩, h3⟩, h4⟩ := h
  simp only [dF, List.lookup, h1, h2, h3, h4]
theorem neS {a b : Str} (h : (a == b) = false) : ¬ a = b := fun e => by rw [beq_iff_eq.mpr e] at h; cases h
theorem dF_put_some (vp vs v : V) (l u : Addr) : putF "some" v (dF vp vs l u) = dF vp v l u := by
  show (if ("plan" : Str) = "some" then _ else (("plan" : Str), vp) :: (if ("some" : Str) = "some" then _ else _)) = _
  rw [if_neg fun e => neS n_sp e.symm, if_pos rfl]; rfl
theorem dF_put_undone (vp vs : V) (l u u' : Addr) : putF "undone" (.ref u') (dF vp vs l u) = dF vp vs l u' := by
  show (if ("plan" : Str) = "undone" then _ else (("plan" : Str), vp) :: (if ("some" : Str) = "undone" then _ else (("some" : Str), vs) :: (if ("done" : Str) = "undone" then _ else (("done" : Str), .ref l) :: (if ("undone" : Str) = "undone" then _ else _)))) = _
  rw [if_neg fun e => neS n_up e.symm, if_neg fun e => neS n_us e.symm, if_neg fun e => neS n_ud e.symm, if_pos rfl]; rfl
/-- a desk at x, its lists at l and u: all its own -/
def dskM (C x l u : Addr) (D : Dsk) : Mt where
  fp := [x, l, u]
  P := fun Hm H v => v = .ref x ∧ l ≠ u ∧ D.dn.length ≤ big ∧ D.un.length ≤ big ∧ ∃ dx vp vs xs ys, H x = some (.ins C dx (dF vp vs l u)) ∧ H l = some (.lst xs) ∧ H u = some (.lst ys) ∧ RpA Hm xs D.dn ∧ RpA Hm ys D.un ∧ Rp Hm vp D.plan ∧ Rp Hm vs D.some
  mono := fun ⟨h1, h2, h3, h4, dx, vp, vs, xs, ys, a, b, c, d, e, f, g⟩ ex k => ⟨h1, h2, h3, h4, dx, vp, vs, xs, ys, (k _ (by simp)).trans a, (k _ (by simp)).trans b, (k _ (by simp)).trans c, d.mono ex, e.mono ex, f.mono ex, g.mono ex⟩
  al := fun ⟨h1, h2, h3, h4, dx, vp, vs, xs, ys, a, b, c, d, e, f, g⟩ z hz => by
    simp only [List.mem_cons, List.not_mem_nil, or_false] at hz
    rcases hz with hz | hz | hz <;> subst hz
    · rw [a]; exact fun z => nomatch z
    · rw [b]; exact fun z => nomatch z
    · rw [c]; exact fun z => nomatch z
/-- a desk that does not change meanwhile -/
def dskR (C : Addr) (D : Dsk) : Mt where
  fp := []
  P := fun Hm _ v => ∃ x l u, D.dn.length ≤ big ∧ D.un.length ≤ big ∧ ∃ dx vp vs xs ys, v = .ref x ∧ Hm x = some (.ins C dx (dF vp vs l u)) ∧ Hm l = some (.lst xs) ∧ Hm u = some (.lst ys) ∧ RpA Hm xs D.dn ∧ RpA Hm ys D.un ∧ Rp Hm vp D.plan ∧ Rp Hm vs D.some
  mono := fun ⟨x, l, u, h3, h4, dx, vp, vs, xs, ys, h1, a, b, c, d, e, f, g⟩ ex k => ⟨x, l, u, h3, h4, dx, vp, vs, xs, ys, h1, ex _ _ a, ex _ _ b, ex _ _ c, d.mono ex, e.mono ex, f.mono ex, g.mono ex⟩
  al := fun _ z hz => nomatch hz
/-- what the text has of the class -/
structure DskT (K : PySem.W.Frag) (C : Addr) : Prop where
  cl : Cls K C
  np : NoAttr K C "plan"
  ns : NoAttr K C "some"
  nd : NoAttr K C "done"
  nu : NoAttr K C "undone"
section
variable {X : Cx} {ρ : List SD} {C x l u : Addr} {D : Dsk} {y : Str} {p1 pos : Pos}
theorem ev_planM {d : PyData} (T : DskT X.K C) (i : Nat) (hs : ρ[i]? = some (.mt (dskM C x l u D)) := by rfl) (hd : D.plan = d := by rfl) (hi : X.N[i]? = some y := by rfl) (hv : Vis X.env.scope y := by first | exact Or.inl rfl | exact Or.inr (Or.inl rfl) | exact Or.inr (Or.inr rfl)) (h1 : (y == ("__debug__" : Str)) = false := by decide) (h2 : (y == ("__classdict__" : Str)) = false := by decide)
    (hb : attributeBase (.Name y p1) "plan" X.env (eval (.Name y p1) X.env) = eval (.Name y p1) X.env := by rfl) : Ev X ρ (.Attribute (.Name y p1) "plan" pos) d := by
  subst hd
  exact pe_imp (pe_fld (pe_var hi hv h1 h2) hb) fun σ H Q ⟨F, O0, O1, s, q⟩ => by
      obtain ⟨v, g1, ⟨g2, _, _, _, dx, vp, vs, xs, ys, a, b, c, d, e, f, g⟩, _⟩ := s.getM hs
      exact ⟨v, g1, x, C, dx, _, vp, g2, a, T.cl, T.np, dF_plan .., q vp _ H s (Ex.refl _) rfl f⟩
theorem ev_someM {d : PyData} (T : DskT X.K C) (i : Nat) (hs : ρ[i]? = some (.mt (dskM C x l u D)) := by rfl) (hd : D.some = d := by rfl) (hi : X.N[i]? = some y := by rfl) (hv : Vis X.env.scope y := by first | exact Or.inl rfl | exact Or.inr (Or.inl rfl) | exact Or.inr (Or.inr rfl)) (h1 : (y == ("__debug__" : Str)) = false := by decide) (h2 : (y == ("__classdict__" : Str)) = false := by decide)
    (hb : attributeBase (.Name y p1) "some" X.env (eval (.Name y p1) X.env) = eval (.Name y p1) X.env := by rfl) : Ev X ρ (.Attribute (.Name y p1) "some" pos) d := by
  subst hd
  exact pe_imp (pe_fld (pe_var hi hv h1 h2) hb) fun σ H Q ⟨F, O0, O1, s, q⟩ => by
      obtain ⟨v, g1, ⟨g2, _, _, _, dx, vp, vs, xs, ys, a, b, c, d, e, f, g⟩, _⟩ := s.getM hs
      exact ⟨v, g1, x, C, dx, _, vs, g2, a, T.cl, T.ns, dF_some .., q vs _ H s (Ex.refl _) rfl g⟩
theorem ev_planR {d : PyData} (T : DskT X.K C) (i : Nat) (hs : ρ[i]? = some (.mt (dskR C D)) := by rfl) (hd : D.plan = d := by rfl) (hi : X.N[i]? = some y := by rfl) (hv : Vis X.env.scope y := by first | exact Or.inl rfl | exact Or.inr (Or.inl rfl) | exact Or.inr (Or.inr rfl)) (h1 : (y == ("__debug__" : Str)) = false := by decide) (h2 : (y == ("__classdict__" : Str)) = false := by decide)
    (hb : attributeBase (.Name y p1) "plan" X.env (eval (.Name y p1) X.env) = eval (.Name y p1) X.env := by rfl) : Ev X ρ (.Attribute (.Name y p1) "plan" pos) d := by
  subst hd
  exact pe_imp (pe_fld (pe_var hi hv h1 h2) hb) fun σ H Q ⟨F, O0, O1, s, q⟩ => by
      obtain ⟨v, g1, ⟨x, l, u, _, _, dx, vp, vs, xs, ys, g2, a, b, c, d, e, f, g⟩, _⟩ := s.getM hs
      exact ⟨v, g1, x, C, dx, _, vp, g2, (msk_some a).2, T.cl, T.np, dF_plan .., q vp _ H s (Ex.refl _) rfl f⟩
theorem ev_someR {d : PyData} (T : DskT X.K C) (i : Nat) (hs : ρ[i]? = some (.mt (dskR C D)) := by rfl) (hd : D.some = d := by rfl) (hi : X.N[i]? = some y := by rfl) (hv : Vis X.env.scope y := by first | exact Or.inl rfl | exact Or.inr (Or.inl rfl) | exact Or.inr (Or.inr rfl)) (h1 : (y == ("__debug__" : Str)) = false := by decide) (h2 : (y == ("__classdict__" : Str)) = false := by decide)
    (hb : attributeBase (.Name y p1) "some" X.env (eval (.Name y p1) X.env) = eval (.Name y p1) X.env := by rfl) : Ev X ρ (.Attribute (.Name y p1) "some" pos) d := by
  subst hd
  exact pe_imp (pe_fld (pe_var hi hv h1 h2) hb) fun σ H Q ⟨F, O0, O1, s, q⟩ => by
      obtain ⟨v, g1, ⟨x, l, u, _, _, dx, vp, vs, xs, ys, g2, a, b, c, d, e, f, g⟩, _⟩ := s.getM hs
      exact ⟨v, g1, x, C, dx, _, vs, g2, (msk_some a).2, T.cl, T.ns, dF_some .., q vs _ H s (Ex.refl _) rfl g⟩
theorem ev_doneR {ds : List PyData} (T : DskT X.K C) (i : Nat) (hs : ρ[i]? = some (.mt (dskR C D)) := by rfl) (hd : D.dn = ds := by rfl) (hi : X.N[i]? = some y := by rfl) (hv : Vis X.env.scope y := by first | exact Or.inl rfl | exact Or.inr (Or.inl rfl) | exact Or.inr (Or.inr rfl)) (h1 : (y == ("__debug__" : Str)) = false := by decide) (h2 : (y == ("__classdict__" : Str)) = false := by decide)
    (hb : attributeBase (.Name y p1) "done" X.env (eval (.Name y p1) X.env) = eval (.Name y p1) X.env := by rfl) : Ev X ρ (.Attribute (.Name y p1) "done" pos) (.list ds) := by
  subst hd
  exact pe_imp (pe_fld (pe_var hi hv h1 h2) hb) fun σ H Q ⟨F, O0, O1, s, q⟩ => by
      obtain ⟨v, g1, ⟨x, l, u, k1, k2, dx, vp, vs, xs, ys, g2, a, b, c, d, e, f, g⟩, _⟩ := s.getM hs
      exact ⟨v, g1, x, C, dx, _, .ref l, g2, (msk_some a).2, T.cl, T.nd, dF_done .., q _ _ H s (Ex.refl _) rfl (.lst b k1 d)⟩
theorem ev_undoneR {ds : List PyData} (T : DskT X.K C) (i : Nat) (hs : ρ[i]? = some (.mt (dskR C D)) := by rfl) (hd : D.un = ds := by rfl) (hi : X.N[i]? = some y := by rfl) (hv : Vis X.env.scope y := by first | exact Or.inl rfl | exact Or.inr (Or.inl rfl) | exact Or.inr (Or.inr rfl)) (h1 : (y == ("__debug__" : Str)) = false := by decide) (h2 : (y == ("__classdict__" : Str)) = false := by decide)
    (hb : attributeBase (.Name y p1) "undone" X.env (eval (.Name y p1) X.env) = eval (.Name y p1) X.env := by rfl) : Ev X ρ (.Attribute (.Name y p1) "undone" pos) (.list ds) := by
  subst hd
  exact pe_imp (pe_fld (pe_var hi hv h1 h2) hb) fun σ H Q ⟨F, O0, O1, s, q⟩ => by
      obtain ⟨v, g1, ⟨x, l, u, k1, k2, dx, vp, vs, xs, ys, g2, a, b, c, d, e, f, g⟩, _⟩ := s.getM hs
      exact ⟨v, g1, x, C, dx, _, .ref u, g2, (msk_some a).2, T.cl, T.nu, dF_undone .., q _ _ H s (Ex.refl _) rfl (.lst c k2 e)⟩
end
end PL

namespace PL
open PySem PySem.Spec PyProof.Rows L2
/-! ## expressions behind which a slot has changed -/
def tE2 (ρ : List SD) (M : List SD → Prop) (d : PyData) : TE := fun σ H Q => ∃ F O0 O1, SA F O0 O1 ρ σ H ∧
  ∀ ρ' O1' v H', M ρ' → SA F O0 O1' ρ' σ H' → Ex (msk (O1 ++ O0) H) (msk (O1' ++ O0) H') → Rp (msk (O1' ++ O0) H') v d → Q v H'
def tT2 (ρ : List SD) (M : List SD → Prop) (b : Bool) : TT := fun σ H Q => ∃ F O0 O1, SA F O0 O1 ρ σ H ∧
  ∀ ρ' O1' H', M ρ' → SA F O0 O1' ρ' σ H' → Ex (msk (O1 ++ O0) H) (msk (O1' ++ O0) H') → Q b H'
abbrev EvS (X : Cx) (ρ : List SD) (e : Expr) (M : List SD → Prop) (d : PyData) : Prop := PE X e (tE2 ρ M d)
abbrev EvTS (X : Cx) (ρ : List SD) (e : Expr) (M : List SD → Prop) (b : Bool) : Prop := PT X e (tT2 ρ M b)
section
variable {X : Cx} {ρ : List SD} {M : List SD → Prop} {P : Po} {rest A B : List Stmt} {e a b c : Expr} {es : List Expr} {d da db : PyData} {pos pos' : Pos} {x : Str} {i : Nat} {k : Bool}
theorem evs_of (h : Ev X ρ e d) : EvS X ρ e (· = ρ) d := pe_imp h fun σ H Q ⟨F, O0, O1, s, q⟩ => ⟨F, O0, O1, s, fun v d' H' s' e' hd r => by
  subst hd
  exact q ρ O1 v H' rfl s' e' r⟩
theorem evs_imp {M' : List SD → Prop} (h : EvS X ρ e M d) (k : ∀ r, M r → M' r) : EvS X ρ e M' d := pe_imp h fun σ H Q ⟨F, O0, O1, s, q⟩ => ⟨F, O0, O1, s, fun ρ' O1' v H' hm s' e' r => q ρ' O1' v H' (k ρ' hm) s' e' r⟩
theorem hs_retS (he : EvS X ρ e M d) (h : ∀ r, M r → P.rt d r) : HSs X (.Return (some e) pos :: rest) ρ P :=
  hs_cons (M := fun _ => False) (ps_imp (ps_ret he) fun Dn σ H ⟨F, O0, O1, s, a, b, k, t⟩ => ⟨F, O0, O1, s, fun ρ' O1' v H' hm s' e' r => b v d ρ' O1' σ H' (h ρ' hm) s' r⟩) fun _ z => z.elim
theorem hs_exprS (he : EvS X ρ e M d) (k : ∀ r, M r → HSs X rest r P) (hs : swapsWith e none pos.line X.env = pure false := by rfl) : HSs X (.Expr e pos :: rest) ρ P :=
  hs_cons (M := M) (ps_imp (ps_expr he hs) fun Dn σ H ⟨F, O0, O1, s, a, b, k, t⟩ => ⟨F, O0, O1, s, fun ρ' O1' v H' hm s' e' r => a ρ' O1' σ H' hm s'⟩) k
theorem hs_setS (hN : X.N.Nodup) (hi : X.N[i]? = some x) (hx : Loc X.env.scope x) (hp : ∀ r, M r → plainAt r i = true) (he : EvS X ρ e M d) (k : ∀ r, M r → HSs X rest (r.set i (.dat d)) P) (hs : swapsWith e (some (.Name x pos')) pos.line X.env = pure false := by rfl)
    (hf : X.fn x = true ∨ X.env.scope.names.lookup x = some .local := by first | exact .inl rfl | exact .inr rfl | assumption) : HSs X (.Assign [.Name x pos'] e pos :: rest) ρ P :=
  hs_cons (M := fun r => ∃ r0, M r0 ∧ r = r0.set i (.dat d)) (ps_imp (ps_set hN hi hx he hs hf) fun Dn σ H ⟨F, O0, O1, s, a, b, k, t⟩ => ⟨F, O0, O1, s, fun ρ' O1' v H' hm s' e' r => a _ O1' _ H' ⟨ρ', hm, rfl⟩ (s'.set (hp ρ' hm) r)⟩) fun r ⟨r0, hm, z⟩ => by subst z; exact k r0 hm
theorem hs_ifS {Mo : List SD → Prop} (hc : EvTS X ρ c M k) (h1 : k = true → ∀ r, M r → HSs X A r (P.to Mo)) (h2 : k = false → ∀ r, M r → HSs X B r (P.to Mo)) (kk : ∀ r, Mo r → HSs X rest r P) : HSs X (.If c A B pos :: rest) ρ P := by
  refine hs_cons (M := Mo) ?_ kk
  cases k with
  | true =>
    refine ⟨fun pins s σ H D I ⟨F, O0, O1, st, q⟩ => ?_⟩
    refine wpAny_If (thn (hc.run pins s σ H (fun b H' => b = true ∧ ∃ r, M r ∧ tS r (P.to Mo) D σ H') I ⟨F, O0, O1, st, fun r O1' H' hm s' e' => ⟨rfl, r, hm, F, O0, O1', s', q⟩⟩) fun z s1 ⟨H1, I1, q1⟩ => ?_)
    obtain ⟨rfl, r, hm, q1⟩ := q1
    exact (h1 rfl r hm).run pins s1 σ H1 D I1 q1
  | false =>
    refine ⟨fun pins s σ H D I ⟨F, O0, O1, st, q⟩ => ?_⟩
    refine wpAny_If (thn (hc.run pins s σ H (fun b H' => b = false ∧ ∃ r, M r ∧ tS r (P.to Mo) D σ H') I ⟨F, O0, O1, st, fun r O1' H' hm s' e' => ⟨rfl, r, hm, F, O0, O1', s', q⟩⟩) fun z s1 ⟨H1, I1, q1⟩ => ?_)
    obtain ⟨rfl, r, hm, q1⟩ := q1
    exact (h2 rfl r hm).run pins s1 σ H1 D I1 q1
/-- a test that is false -/
theorem hs_ifS0 (hc : EvTS X ρ c M false) (k : ∀ r, M r → HSs X rest r P) : HSs X (.If c A [] pos :: rest) ρ P :=
  hs_ifS (Mo := M) hc (fun z => nomatch z) (fun _ r hm => hs_nil hm) k
theorem tOpS_of {r : R2} (hr : OpD r da db (Eq d)) (σ : Sg) (H : Hp) (Q : VK) (h : tE2 ρ M d σ H Q) : tOp r (tE2 ρ M da) (fun σ H Q => ∃ ρ', M ρ' ∧ tP ρ' (Eq db) σ H Q) σ H Q := by
  obtain ⟨F, O0, O1, s, k⟩ := h
  refine ⟨F, O0, O1, s, fun ρ' O1' x H1 hm s1 e1 r1 => ⟨ρ', hm, F, O0, O1', s1, fun y db' H2 s2 e2 hb r2 => ?_⟩⟩
  subst hb
  refine hr (O1' ++ O0) H2 x y Q s2.al (r1.mono e2) r2 fun v d' H' e' hd r => ?_
  subst hd
  exact k ρ' O1' v H' hm (s2.ex e') (e1.trans (e2.trans e'.msk)) r
theorem evs_cmp {op : CmpOp} {r : R2} (ho : OpR X (compareOp op) r) (ha : EvS X ρ a M da) (hb : ∀ r, M r → Ev X r b db) (hr : OpD r da db (Eq d)) (hm : behindInMarks op b = false) : EvS X ρ (.Compare a [op] [b] pos) M d :=
  pe_imp (pe_cmpR ho ha (pe_any hb) hm) (tOpS_of hr)
theorem ets_cmp {op : CmpOp} {r : R2} (ho : OpR X (compareOp op) r) (ha : EvS X ρ a M da) (hb : ∀ r, M r → Ev X r b db) (hr : OpD r da db (Eq (.bool k))) (hm : behindInMarks op b = false) : EvTS X ρ (.Compare a [op] [b] pos) M k :=
  pt_imp (pt_cmpR ho ha (pe_any hb) hm) fun σ H Q ⟨F, O0, O1, s, q⟩ => tOpS_of (d := .bool k) hr σ H _ ⟨F, O0, O1, s, fun ρ' O1' v H' hm' s' e' r => by
    cases r
    exact ⟨k, rfl, q ρ' O1' H' hm' s' e'⟩⟩
theorem ets_ne {n : Nat} (hr : Room n X.A) (ha : EvS X ρ a M da) (hb : ∀ r, M r → Ev X r b db) (sa : SeqAt.shaped da = true) (sb : SeqAt.shaped db = true) (e : (!PyData.eqv da db) = k) : EvTS X ρ (.Compare a [.NotEq] [b] pos) M k := by
  subst e; exact ets_cmp (op_neD hr.units) ha hb (od_ne sa sb) (nomark _)
theorem evs_eq {n : Nat} (hr : Room n X.A) (ha : EvS X ρ a M da) (hb : ∀ r, M r → Ev X r b db) (sa : SeqAt.shaped da = true) (sb : SeqAt.shaped db = true) (e : PyData.eqv da db = k) : EvS X ρ (.Compare a [.Eq] [b] pos) M (.bool k) := by
  subst e; exact evs_cmp (op_eqD hr.units) ha hb (od_eq sa sb) (nomark _)
end

/-! ## methods and defs that have a desk as their first argument -/
/-- it may change -/
structure CtD where
  A : Type
  enc : A → List PyData
  st : A → Dsk
  pre : A → Prop
  new : A → Dsk
  res : A → PyData
def spD (C : Addr) (c : CtD) : Sp := fun vs H Q _ => ∃ (O0 : List Addr) (x l u : Addr) (a : c.A) (us : List V), vs = .ref x :: us ∧ c.pre a ∧ Al O0 H ∧ x ∉ O0 ∧ l ∉ O0 ∧ u ∉ O0 ∧ (dskM C x l u (c.st a)).P (msk ([x, l, u] ++ O0) H) H (.ref x) ∧ RpA (msk ([x, l, u] ++ O0) H) us (c.enc a) ∧
  ∀ v l' u' H', (∀ b ∈ [x, l', u'], b ∈ [x, l, u] ∨ H b = none) → Ex (msk [x, l, u] H) H' → (dskM C x l' u' (c.new a)).P (msk ([x, l', u'] ++ O0) H') H' (.ref x) → Rp (msk ([x, l', u'] ++ O0) H') v (c.res a) → Q v H'
/-- it is read alone -/
structure CtR where
  A : Type
  enc : A → List PyData
  st : A → Dsk
  pre : A → Prop
  res : A → PyData
def spR (C : Addr) (c : CtR) : Sp := fun vs H Q _ => ∃ (O : List Addr) (a : c.A) (v0 : V) (us : List V), vs = v0 :: us ∧ c.pre a ∧ Al O H ∧ (dskR C (c.st a)).P (msk O H) H v0 ∧ RpA (msk O H) us (c.enc a) ∧ ∀ v H', Ex H H' → Rp (msk O H') v (c.res a) → Q v H'
/-- it raises, nothing has changed -/
structure CtRX where
  A : Type
  enc : A → List PyData
  st : A → Dsk
  pre : A → Prop
  kind : A → Ek
def spRX (C : Addr) (cl : Ek → Addr) (c : CtRX) : Sp := fun vs H Q E => ∃ (O : List Addr) (a : c.A) (v0 : V) (us : List V), vs = v0 :: us ∧ c.pre a ∧ Al O H ∧ (dskR C (c.st a)).P (msk O H) H v0 ∧ RpA (msk O H) us (c.enc a) ∧ ∀ H', Ex H H' → E (.ref (cl (c.kind a))) none H'
/-- a method of the text -/
structure MetAt (K : PySem.W.Frag) (C : Addr) (m qual : Str) (st : Stmt) (ps : List Str) (f : Addr) (fd : FuncData) : Prop where
  fn : Fun K m qual st f fd
  at_ : Meth K C m f
  kw : Kw fd ps
def MetD (P : Program) (w : World) (K : PySem.W.Frag) (mg : Str → Option Value) (base : Heap) (k : Nat) (C : Addr) (m : Str) (ps : List Str) (c : CtD) : Prop := ∃ f fd, FnOk P w K mg base CX0 k f fd ps (spD C c) ∧ Meth K C m f ∧ Kw fd ps
def MetR (P : Program) (w : World) (K : PySem.W.Frag) (mg : Str → Option Value) (base : Heap) (k : Nat) (C : Addr) (m : Str) (ps : List Str) (c : CtR) : Prop := ∃ f fd, FnOk P w K mg base CX0 k f fd ps (spR C c) ∧ Meth K C m f ∧ Kw fd ps
def MetX (P : Program) (w : World) (K : PySem.W.Frag) (mg : Str → Option Value) (base : Heap) (k : Nat) (C : Addr) (m : Str) (ps : List Str) (cl : Ek → Addr) (c : CtRX) : Prop := ∃ f fd, FnOk P w K mg base (L2.CX P w) k f fd ps (spRX C cl c) ∧ Meth K C m f ∧ Kw fd ps
def DefD (P : Program) (w : World) (K : PySem.W.Frag) (mg : Str → Option Value) (base : Heap) (k : Nat) (C : Addr) (x : Str) (ps : List Str) (c : CtD) : Prop := ∃ f fd, FnOk P w K mg base CX0 k f fd ps (spD C c) ∧ mg x = some (.ref f) ∧ PySem.W.keepIn K (.ref f) = true ∧ Kw fd ps
def DefRd (P : Program) (w : World) (K : PySem.W.Frag) (mg : Str → Option Value) (base : Heap) (k : Nat) (C : Addr) (x : Str) (ps : List Str) (c : CtR) : Prop := ∃ f fd, FnOk P w K mg base CX0 k f fd ps (spR C c) ∧ mg x = some (.ref f) ∧ PySem.W.keepIn K (.ref f) = true ∧ Kw fd ps
def DefRX (P : Program) (w : World) (K : PySem.W.Frag) (mg : Str → Option Value) (base : Heap) (k : Nat) (C : Addr) (x : Str) (ps : List Str) (cl : Ek → Addr) (c : CtRX) : Prop := ∃ f fd, FnOk P w K mg base (L2.CX P w) k f fd ps (spRX C cl c) ∧ mg x = some (.ref f) ∧ PySem.W.keepIn K (.ref f) = true ∧ Kw fd ps
section
variable {P : Program} {w : World} {K : PySem.W.Frag} {mg : Str → Option Value} {base : Heap} {C : Addr}
theorem spD_mk {m qual : Str} {st : Stmt} {f : Addr} {fd : FuncData} {N ps : List Str} {k : Nat} {c : CtD} (Fn : Fun K m qual st f fd) (S : FnScope N ps (defScope st)) (hl : ∀ a, (c.enc a).length + 1 = ps.length)
    (body : ∀ a, c.pre a → ∀ (x l u : Addr) (cdv : Value) (A : Around) (outer : List Env) (s : Shared) (H : Hp) (E : XK), Room k (A.deeper (envOfC qual (defScope st) s.heap.objs.size f cdv)) →
      HSs (cxOf CX0 P w K mg base N qual (defScope st) f cdv A outer s H E).nox (defBody st) (.mt (dskM C x l u (c.st a)) :: ((c.enc a).map SD.dat ++ List.replicate (N.length - ((c.enc a).length + 1)) SD.un))
        { nx := fun ρ => c.res a = .none ∧ ∃ l' u', ρ[0]? = some (.mt (dskM C x l' u' (c.new a))), rt := fun d ρ => d = c.res a ∧ ∃ l' u', ρ[0]? = some (.mt (dskM C x l' u' (c.new a))) }) :
    FnOk P w K mg base CX0 (k + 1) f fd ps (spD C c) := by
  refine Fn.ok S (fun vs H Q E ⟨O0, x, l, u, a, us, e, _, _, _, _, _, _, r, _⟩ => by rw [e, List.length_cons, r.len]; exact hl a) (fun cdv A outer s H vs Q E hr ⟨O0, x, l, u, a, us, e, hp, al, x0, l0, u0, dk, ra, kt⟩ => ?_)
  have hnot : ∀ b ∈ [x, l, u], b ∉ O0 := fun b hb z => by
    simp only [List.mem_cons, List.not_mem_nil, or_false] at hb
    rcases hb with q | q | q <;> subst q
    · exact x0 z
    · exact l0 z
    · exact u0 z
  have fin : ∀ {v : V} {ρ' : List SD} {O1' : List Addr} {σ' : Sg} {H' : Hp}, (∃ l' u', ρ'[0]? = some (.mt (dskM C x l' u' (c.new a)))) → SA (msk [x, l, u] H) O0 O1' ρ' σ' H' → Rp (msk (O1' ++ O0) H') v (c.res a) → Q v H' := fun {v ρ' O1' σ' H'} ⟨l', u', q2⟩ s' r' => by
    obtain ⟨v', g1, g2, g3⟩ := s'.getM q2
    have sub : ∀ b ∈ [x, l', u'] ++ O0, b ∈ O1' ++ O0 := fun b hb => (List.mem_append.mp hb).elim (fun z => List.mem_append_left _ (g3 b z)) fun z => List.mem_append_right _ z
    have ev : v' = .ref x := g2.1
    subst ev
    refine kt v l' u' H' (fun b hb => ?_) s'.fr ((dskM C x l' u' (c.new a)).mono g2 (Ex.mskSub sub) fun _ _ => rfl) (r'.mono (Ex.mskSub sub))
    have := (s'.new b (g3 b hb)).1
    by_cases hh : b ∈ [x, l, u]
    · exact .inl hh
    · rw [msk_out hh] at this
      exact .inr this
  refine ⟨_, body a hp x l u cdv A outer s H E hr, msk [x, l, u] H, O0, [x, l, u], ⟨Ex.unmsk, ?_, fun b hb => ⟨msk_in hb, hnot b hb⟩, al⟩, ?_, ?_, fun _ _ _ _ z => z.elim, fun _ _ _ _ z => z.elim⟩
  · rw [e]
    unfold L2.start
    have hst : N.length - (V.ref x :: us).length = N.length - ((c.enc a).length + 1) := by rw [List.length_cons, ra.len]
    rw [hst]
    have q := Sl.mt (m := dskM C x l u (c.st a)) dk (fun b _ => by simp) (Sl.start (n := N.length - ((c.enc a).length + 1)) ra)
    rw [List.append_nil] at q
    exact q
  · intro ρ' O1' σ' H' ⟨q1, q2⟩ s'
    exact fin q2 s' (by rw [q1]; exact .non)
  · intro v d ρ' O1' σ' H' ⟨q1, q2⟩ s' r'
    rw [q1] at r'
    exact fin q2 s' r'
theorem spR_mk {m qual : Str} {st : Stmt} {f : Addr} {fd : FuncData} {N ps : List Str} {k : Nat} {c : CtR} (Fn : Fun K m qual st f fd) (S : FnScope N ps (defScope st)) (hl : ∀ a, (c.enc a).length + 1 = ps.length)
    (body : ∀ a, c.pre a → ∀ (cdv : Value) (A : Around) (outer : List Env) (s : Shared) (H : Hp) (E : XK), Room k (A.deeper (envOfC qual (defScope st) s.heap.objs.size f cdv)) →
      HSs (cxOf CX0 P w K mg base N qual (defScope st) f cdv A outer s H E).nox (defBody st) (.mt (dskR C (c.st a)) :: ((c.enc a).map SD.dat ++ List.replicate (N.length - ((c.enc a).length + 1)) SD.un))
        { nx := fun _ => c.res a = .none, rt := fun d _ => d = c.res a }) :
    FnOk P w K mg base CX0 (k + 1) f fd ps (spR C c) := by
  refine Fn.ok S (fun vs H Q E ⟨O, a, v0, us, e, _, _, _, r, _⟩ => by rw [e, List.length_cons, r.len]; exact hl a) (fun cdv A outer s H vs Q E hr ⟨O, a, v0, us, e, hp, al, dk, ra, kt⟩ => ?_)
  refine ⟨_, body a hp cdv A outer s H E hr, H, O, [], ⟨Ex.refl _, ?_, fun b hb => (by cases hb), al⟩, ?_, ?_, fun _ _ _ _ z => z.elim, fun _ _ _ _ z => z.elim⟩
  · rw [e]
    unfold L2.start
    have hst : N.length - (v0 :: us).length = N.length - ((c.enc a).length + 1) := by rw [List.length_cons, ra.len]
    rw [hst]
    exact Sl.mt (m := dskR C (c.st a)) dk (fun b hb => by cases hb) (Sl.start (n := N.length - ((c.enc a).length + 1)) ra)
  · intro ρ' O1' σ' H' q1 s'
    exact kt .non H' s'.fr (by rw [q1]; exact .non)
  · intro v d ρ' O1' σ' H' q1 s' r'
    rw [q1] at r'
    exact kt v H' s'.fr (r'.mono (Ex.mskSub fun a ha => List.mem_append_right _ ha))
theorem spRX_mk {m qual : Str} {st : Stmt} {f : Addr} {fd : FuncData} {N ps : List Str} {k : Nat} {cl : Ek → Addr} {c : CtRX} (Fn : Fun K m qual st f fd) (S : FnScope N ps (defScope st)) (hl : ∀ a, (c.enc a).length + 1 = ps.length)
    (body : ∀ a, c.pre a → ∀ (cdv : Value) (A : Around) (outer : List Env) (s : Shared) (H : Hp) (E : XK), Room k (A.deeper (envOfC qual (defScope st) s.heap.objs.size f cdv)) →
      Takes (cxOf (L2.CX P w) P w K mg base N qual (defScope st) f cdv A outer s H E) (fun cls d _ H => E cls d H) → Passes (L2.CX P w) (cxOf (L2.CX P w) P w K mg base N qual (defScope st) f cdv A outer s H E) E →
      HEs (cxOf (L2.CX P w) P w K mg base N qual (defScope st) f cdv A outer s H E) cl (defBody st) (.mt (dskR C (c.st a)) :: ((c.enc a).map SD.dat ++ List.replicate (N.length - ((c.enc a).length + 1)) SD.un)) { nx := fun _ => False, rt := fun _ _ => False } (fun q => q = c.kind a) E) :
    FnOk P w K mg base (L2.CX P w) (k + 1) f fd ps (spRX C cl c) := by
  refine Fn.okX S (fun vs H Q E ⟨O, a, v0, us, e, _, _, _, r, _⟩ => by rw [e, List.length_cons, r.len]; exact hl a) (fun cdv A outer s H vs Q E hr ⟨O, a, v0, us, e, hp, al, dk, ra, kt⟩ => ?_)
  have tk : Takes (cxOf (L2.CX P w) P w K mg base N qual (defScope st) f cdv A outer s H E) (fun cls d _ H => E cls d H) := takes_of rfl rfl rfl rfl
  refine ⟨_, body a hp cdv A outer s H E hr tk (passes_call tk fun _ _ _ _ h => h), H, O, [], ⟨Ex.refl _, ?_, fun a ha => (by cases ha), al⟩, fun _ _ _ _ z => z.elim, fun _ _ _ _ _ _ z => z.elim, fun _ _ _ _ z => z.elim, fun _ _ _ _ z => z.elim, ?_⟩
  · rw [e]
    unfold L2.start
    have hst : N.length - (v0 :: us).length = N.length - ((c.enc a).length + 1) := by rw [List.length_cons, ra.len]
    rw [hst]
    exact Sl.mt (m := dskR C (c.st a)) dk (fun b hb => by cases hb) (Sl.start (n := N.length - ((c.enc a).length + 1)) ra)
  · intro q ρ' O1' σ' H' e s'
    subst e
    exact kt H' s'.fr
end
end PL

namespace PL
open PySem PySem.Spec PyProof.Rows L2
/-! ## calls with a desk, stores into a desk -/
mutual
def noL : PyData → Bool
  | .list _ => false
  | .tuple ds => noLs ds
  | _ => true
def noLs : List PyData → Bool
  | [] => true
  | d :: ds => noL d && noLs ds
end
mutual
theorem Rp.tight {H H' : Hp} (h : ∀ a xs, H a = some (.tup xs) → H' a = some (.tup xs)) : ∀ (d : PyData) (v : V), noL d = true → Rp H v d → Rp H' v d
  | .none, _, _, r => by cases r; exact .non
  | .bool b, _, _, r => by cases r; exact .bl b
  | .int i, _, _, r => by cases r; exact .int i
  | .str x, _, _, r => by cases r with | str _ l => exact .str x l
  | .list ds, _, z, _ => by simp [noL] at z
  | .tuple ds, _, z, r => by
    cases r with
    | tup h1 h2 h3 => exact .tup (h _ _ h1) h2 (RpA.tight h ds _ (by simpa [noL] using z) h3)
  | .dict _, _, _, r => by cases r
theorem RpA.tight {H H' : Hp} (h : ∀ a xs, H a = some (.tup xs) → H' a = some (.tup xs)) : ∀ (ds : List PyData) (vs : List V), noLs ds = true → RpA H vs ds → RpA H' vs ds
  | [], _, _, r => by cases r; exact .nil
  | d :: ds, _, z, r => by
    simp only [noLs, Bool.and_eq_true] at z
    cases r with
    | cons h1 h2 => exact .cons (Rp.tight h d _ z.1 h1) (RpA.tight h ds _ z.2 h2)
end
theorem noLs_map {α : Type} (f : α → PyData) (h : ∀ a, noL (f a) = true) : ∀ l : List α, noLs (l.map f) = true
  | [] => rfl
  | a :: l => by
    show (noL (f a) && noLs (l.map f)) = true
    rw [h a, noLs_map f h l]; rfl
/-- a desk lent to one that reads it alone -/
theorem SA.lend {F H : Hp} {O0 O1 : List Addr} {ρ : List SD} {σ : Sg} {i : Nat} {C x l u : Addr} {D : Dsk} (s : SA F O0 O1 ρ σ H) (hs : ρ[i]? = some (.mt (dskM C x l u D))) :
    ∃ O, Al O H ∧ (dskR C D).P (msk O H) H (.ref x) ∧ (∀ H', Ex (msk (O1 ++ O0) H') (msk O H')) ∧ σ[i]? = some (some (.ref x)) ∧ (∃ dx vp vs, H x = some (.ins C dx (dF vp vs l u))) ∧
      ∀ H', Ex H H' → ∀ v d, noL d = true → Rp (msk O H') v d → Rp (msk (O1 ++ O0) H') v d := by
  obtain ⟨v, g1, ⟨g2, g3, k1, k2, dx, vp, vs, xs, ys, a, b, c, d, e, f, g⟩, gf⟩ := s.getM hs
  subst g2
  have ho : ∀ z, z ∈ (O1 ++ O0).filter (fun z => decide (z ∉ [x, l, u])) ↔ z ∈ O1 ++ O0 ∧ z ∉ [x, l, u] := fun z => by rw [List.mem_filter, decide_eq_true_iff]
  generalize (O1 ++ O0).filter (fun z => decide (z ∉ [x, l, u])) = O at ho
  have hO : ∀ z ∈ O, z ∈ O1 ++ O0 := fun z hz => ((ho z).mp hz).1
  have ex : ∀ H', Ex (msk (O1 ++ O0) H') (msk O H') := fun H' => Ex.mskSub hO
  have out : ∀ z ∈ [x, l, u], msk O H z = H z := fun z hz => msk_out fun w => ((ho z).mp w).2 hz
  refine ⟨O, fun z hz => s.al z (hO z hz), ⟨x, l, u, k1, k2, dx, vp, vs, xs, ys, rfl, (out x (by simp)).trans a, (out l (by simp)).trans b, (out u (by simp)).trans c, d.mono (ex H), e.mono (ex H), f.mono (ex H), g.mono (ex H)⟩, ex, g1, ⟨dx, vp, vs, a⟩, fun H' e' v d' hl r => Rp.tight (fun z zs hz => ?_) d' v hl r⟩
  obtain ⟨z1, z2⟩ := msk_some hz
  rw [msk_out fun w => z1 ((ho z).mpr ⟨w, fun q => ?_⟩)]
  · exact z2
  · simp only [List.mem_cons, List.not_mem_nil, or_false] at q
    rcases q with q | q | q <;> subst q
    · rw [e' _ _ a] at z2; cases z2
    · rw [e' _ _ b] at z2; cases z2
    · rw [e' _ _ c] at z2; cases z2
section
variable {X : Cx} {ρ : List SD} {P : Po} {rest : List Stmt} {C x l u : Addr} {D : Dsk} {y m fn : Str} {p p1 p2 apos cpos epos pos : Pos} {e : Expr} {es : List Expr} {d : PyData} {k n : Nat} {ps : List Str}
/-! a method that reads -/
theorem ev_methR {c : CtR} {pl : Sem Bool} (F : MetR X.prog X.w X.K X.mg X.base k C m ps c) (i : Nat) (a : c.A) (hr : Room n X.A) (T : DskT X.K C) (hp : c.pre a) (hL : noL (c.res a) = true) (hE : c.enc a = [] := by rfl) (hs : ρ[i]? = some (.mt (dskM C x l u (c.st a))) := by rfl) (hn : notF m = true := by decide +kernel) (hkn : k ≤ n := by decide)
    (hi : X.N[i]? = some y := by rfl) (hv : Vis X.env.scope y := by first | exact Or.inl rfl | exact Or.inr (Or.inl rfl) | exact Or.inr (Or.inr rfl)) (h1 : (y == ("__debug__" : Str)) = false := by decide) (h2 : (y == ("__classdict__" : Str)) = false := by decide)
    (ht : eval (.Call (.Attribute (.Name y p1) m apos) [] [] pos) X.env = (do
      let ov ← eval (.Name y p1) X.env
      standAt apos.atName
      let (f, first) ← holding [ov] (getMethod ov m pl)
      callWith pos f first (backTo pos (starEach [] X.env)) (backToKw pos (keywordEach [] X.env))) := by rfl) : Ev X ρ (.Call (.Attribute (.Name y p1) m apos) [] [] pos) (c.res a) := by
  obtain ⟨f, fd, F1, F2, F3⟩ := F
  refine pe_imp (pe_meth0 (pe_var hi hv h1 h2) T.cl F2 F1 (hr.mono hkn) F3.bd .nil pass0 ht) fun σ H Q ⟨F, O0, O1, s, q⟩ => ?_
  obtain ⟨O, al, dk, ex, g1, ⟨dx, vp, vs, hx⟩, back⟩ := s.lend hs
  refine ⟨_, g1, x, dx, _, rfl, hx, dF_no _ _ _ _ hn, O, a, .ref x, [], rfl, hp, al, dk, by rw [hE]; exact .nil, fun v H' e' r => ?_⟩
  exact q v _ H' (s.ex e') e'.msk rfl (back H' e' v _ hL r)
theorem ev_methRR {c : CtR} {pl : Sem Bool} (F : MetR X.prog X.w X.K X.mg X.base k C m ps c) (i : Nat) (a : c.A) (hr : Room n X.A) (T : DskT X.K C) (hp : c.pre a) (hE : c.enc a = [] := by rfl) (hs : ρ[i]? = some (.mt (dskR C (c.st a))) := by rfl) (hn : notF m = true := by decide +kernel) (hkn : k ≤ n := by decide)
    (hi : X.N[i]? = some y := by rfl) (hv : Vis X.env.scope y := by first | exact Or.inl rfl | exact Or.inr (Or.inl rfl) | exact Or.inr (Or.inr rfl)) (h1 : (y == ("__debug__" : Str)) = false := by decide) (h2 : (y == ("__classdict__" : Str)) = false := by decide)
    (ht : eval (.Call (.Attribute (.Name y p1) m apos) [] [] pos) X.env = (do
      let ov ← eval (.Name y p1) X.env
      standAt apos.atName
      let (f, first) ← holding [ov] (getMethod ov m pl)
      callWith pos f first (backTo pos (starEach [] X.env)) (backToKw pos (keywordEach [] X.env))) := by rfl) : Ev X ρ (.Call (.Attribute (.Name y p1) m apos) [] [] pos) (c.res a) := by
  obtain ⟨f, fd, F1, F2, F3⟩ := F
  refine pe_imp (pe_meth0 (pe_var hi hv h1 h2) T.cl F2 F1 (hr.mono hkn) F3.bd .nil pass0 ht) fun σ H Q ⟨F, O0, O1, s, q⟩ => ?_
  obtain ⟨v0, g1, dk, _⟩ := s.getM hs
  obtain ⟨x, l, u, _, _, dx, vp, vs, xs, ys, e1, hx, _⟩ := id dk
  refine ⟨_, g1, x, dx, _, e1, (msk_some hx).2, dF_no _ _ _ _ hn, O1 ++ O0, a, v0, [], rfl, hp, s.al, dk, by rw [hE]; exact .nil, fun v H' e' r => ?_⟩
  exact q v _ H' (s.ex e') e'.msk rfl r
/-- a def that reads a desk -/
theorem ev_callRd {c : CtR} (F : DefRd X.prog X.w X.K X.mg X.base k C fn ps c) (i : Nat) (a : c.A) (hr : Room n X.A) (hg : Gl X fn) (ha : EvA X ρ es (c.enc a)) (hp : c.pre a) (hL : noL (c.res a) = true) (hs : ρ[i]? = some (.mt (dskM C x l u (c.st a))) := by rfl) (hkn : k ≤ n := by decide)
    (hi : X.N[i]? = some y := by rfl) (hv : Vis X.env.scope y := by first | exact Or.inl rfl | exact Or.inr (Or.inl rfl) | exact Or.inr (Or.inr rfl)) (h1 : (y == ("__debug__" : Str)) = false := by decide) (h2 : (y == ("__classdict__" : Str)) = false := by decide)
    (hdb : (fn == ("__debug__" : Str)) = false := by decide) (he : starEach (.Name y p1 :: es) X.env = (false, eval (.Name y p1) X.env) :: starEach es X.env := by rfl) (hpl : (backTo pos (starEach es X.env)).any (·.1) = false := by rfl) : Ev X ρ (.Call (.Name fn p) (.Name y p1 :: es) [] pos) (c.res a) := by
  obtain ⟨f, fd, F1, F2, F3, F4⟩ := F
  refine pe_imp (pe_call F1 (hr.mono hkn) hg F2 F3 F4.bd .nil pass0 (pa_cons (pe_var hi hv h1 h2) ha he) hdb he hpl) fun σ H Q ⟨F, O0, O1, s, q⟩ => ?_
  obtain ⟨_, _, _, _, g1, _, _⟩ := s.lend hs
  refine ⟨_, g1, F, O0, O1, s, fun vs ds H1 s1 e1 hd r1 => ?_⟩
  subst hd
  obtain ⟨O, al, dk, ex, _, _, back⟩ := s1.lend hs
  show spR C c ((V.ref x :: vs) ++ []) H1 Q E0
  rw [List.append_nil]
  exact ⟨O, a, .ref x, vs, rfl, hp, al, dk, r1.mono (ex H1), fun v H' e' r => q v _ H' (s1.ex e') (e1.trans e'.msk) rfl (back H' e' v _ hL r)⟩
/-! a method that changes -/
/-- behind the change -/
def Dk (ρ : List SD) (i : Nat) (C x : Addr) (D : Dsk) : List SD → Prop := fun r => ∃ l' u', r = ρ.set i (.mt (dskM C x l' u' D))
theorem SA.give {F H : Hp} {O0 O1 : List Addr} {σ : Sg} {i : Nat} {c : CtD} {a : c.A} {vs : List V} {Q : VK} {E : XK} (s : SA F O0 O1 ρ σ H) (hs : ρ[i]? = some (.mt (dskM C x l u (c.st a)))) (hp : c.pre a) (r : RpA (msk (O1 ++ O0) H) vs (c.enc a))
    (q : ∀ ρ' O1' v H', Dk ρ i C x (c.new a) ρ' → SA F O0 O1' ρ' σ H' → Ex (msk (O1 ++ O0) H) (msk (O1' ++ O0) H') → Rp (msk (O1' ++ O0) H') v (c.res a) → Q v H') : spD C c (.ref x :: vs) H Q E := by
  obtain ⟨v0, g1, g2, gf⟩ := s.getM hs
  have ev : v0 = .ref x := g2.1
  subst ev
  have ho : ∀ z, z ∈ (O1 ++ O0).filter (fun z => decide (z ∉ [x, l, u])) ↔ z ∈ O1 ++ O0 ∧ z ∉ [x, l, u] := fun z => by rw [List.mem_filter, decide_eq_true_iff]
  generalize (O1 ++ O0).filter (fun z => decide (z ∉ [x, l, u])) = O at ho
  have ec : ∀ H, msk ([x, l, u] ++ O) H = msk (O1 ++ O0) H := fun H => msk_congr (fun b => by
    rw [List.mem_append, ho b]
    constructor
    · rintro (z | z)
      · exact List.mem_append_left _ (gf b z)
      · exact z.1
    · intro z
      by_cases c : b ∈ [x, l, u]
      · exact .inl c
      · exact .inr ⟨z, c⟩) H
  refine ⟨O, x, l, u, a, vs, rfl, hp, fun z hz => s.al z ((ho z).mp hz).1, fun z => ((ho _).mp z).2 (by simp), fun z => ((ho _).mp z).2 (by simp), fun z => ((ho _).mp z).2 (by simp), by rw [ec]; exact g2, by rw [ec]; exact r, fun v l' u' H' nw ex pk rp => ?_⟩
  have same : ∀ {O' : List Addr}, (∀ b, b ∈ O' ↔ b ∈ (dskM C x l' u' (c.new a)).fp ∨ (b ∈ O1 ∧ b ∉ (dskM C x l u (c.st a)).fp)) → msk (O' ++ O0) H' = msk ([x, l', u'] ++ O) H' := fun {O'} hO' => msk_congr (fun b => by
    rw [List.mem_append, List.mem_append, hO' b, ho b, List.mem_append]
    constructor
    · rintro ((z | z) | z)
      · exact .inl z
      · exact .inr ⟨.inl z.1, z.2⟩
      · exact .inr ⟨.inr z, fun w => (s.new b (gf b w)).2 z⟩
    · rintro (z | ⟨z | z, w⟩)
      · exact .inl (.inl z)
      · exact .inl (.inr ⟨z, w⟩)
      · exact .inr z) H'
  obtain ⟨O2, s2, em, hO2⟩ := s.move (m' := dskM C x l' u' (c.new a)) hs ex nw fun w O' hO' em hw hP => (by
    rw [g1] at hw
    cases hw
    rw [same hO']
    exact pk)
  exact q _ O2 v H' ⟨l', u', rfl⟩ s2 em (by rw [same hO2]; exact rp)
theorem evs_meth {c : CtD} {pl : Sem Bool} (F : MetD X.prog X.w X.K X.mg X.base k C m ps c) (i : Nat) (a : c.A) (hr : Room n X.A) (T : DskT X.K C) (ha : EvA X ρ (e :: es) (c.enc a)) (hp : c.pre a) (hs : ρ[i]? = some (.mt (dskM C x l u (c.st a))) := by rfl) (hn : notF m = true := by decide +kernel) (hkn : k ≤ n := by decide)
    (hi : X.N[i]? = some y := by rfl) (hv : Vis X.env.scope y := by first | exact Or.inl rfl | exact Or.inr (Or.inl rfl) | exact Or.inr (Or.inr rfl)) (h1 : (y == ("__debug__" : Str)) = false := by decide) (h2 : (y == ("__classdict__" : Str)) = false := by decide)
    (hst : starEach (e :: es) X.env = (false, eval e X.env) :: starEach es X.env := by rfl) (hpl : (backTo pos (starEach es X.env)).any (·.1) = false := by rfl)
    (ht : eval (.Call (.Attribute (.Name y p1) m apos) (e :: es) [] pos) X.env = (do
      let ov ← eval (.Name y p1) X.env
      standAt apos.atName
      let (f, first) ← holding [ov] (getMethod ov m pl)
      callWith pos f first (backTo pos (starEach (e :: es) X.env)) (backToKw pos (keywordEach [] X.env))) := by rfl) : EvS X ρ (.Call (.Attribute (.Name y p1) m apos) (e :: es) [] pos) (Dk ρ i C x (c.new a)) (c.res a) := by
  obtain ⟨f, fd, F1, F2, F3⟩ := F
  refine pe_imp (pe_meth (pe_var hi hv h1 h2) T.cl F2 F1 (hr.mono hkn) F3.bd .nil pass0 ha hst hpl ht) fun σ H Q ⟨F, O0, O1, s, q⟩ => ?_
  obtain ⟨_, _, _, _, g1, ⟨dx, vp, vs0, hx⟩, _⟩ := s.lend hs
  refine ⟨_, g1, x, dx, _, rfl, hx, dF_no _ _ _ _ hn, F, O0, O1, s, fun vs ds H1 s1 e1 hd r1 => ?_⟩
  subst hd
  show spD C c (.ref x :: (vs ++ [])) H1 Q E0
  rw [List.append_nil]
  exact s1.give hs hp r1 fun ρ' O1' v H' hm s' em r => q ρ' O1' v H' hm s' (e1.trans em) r
theorem evs_meth0 {c : CtD} {pl : Sem Bool} (F : MetD X.prog X.w X.K X.mg X.base k C m ps c) (i : Nat) (a : c.A) (hr : Room n X.A) (T : DskT X.K C) (hp : c.pre a) (hE : c.enc a = [] := by rfl) (hs : ρ[i]? = some (.mt (dskM C x l u (c.st a))) := by rfl) (hn : notF m = true := by decide +kernel) (hkn : k ≤ n := by decide)
    (hi : X.N[i]? = some y := by rfl) (hv : Vis X.env.scope y := by first | exact Or.inl rfl | exact Or.inr (Or.inl rfl) | exact Or.inr (Or.inr rfl)) (h1 : (y == ("__debug__" : Str)) = false := by decide) (h2 : (y == ("__classdict__" : Str)) = false := by decide)
    (ht : eval (.Call (.Attribute (.Name y p1) m apos) [] [] pos) X.env = (do
      let ov ← eval (.Name y p1) X.env
      standAt apos.atName
      let (f, first) ← holding [ov] (getMethod ov m pl)
      callWith pos f first (backTo pos (starEach [] X.env)) (backToKw pos (keywordEach [] X.env))) := by rfl) : EvS X ρ (.Call (.Attribute (.Name y p1) m apos) [] [] pos) (Dk ρ i C x (c.new a)) (c.res a) := by
  obtain ⟨f, fd, F1, F2, F3⟩ := F
  refine pe_imp (pe_meth0 (pe_var hi hv h1 h2) T.cl F2 F1 (hr.mono hkn) F3.bd .nil pass0 ht) fun σ H Q ⟨F, O0, O1, s, q⟩ => ?_
  obtain ⟨_, _, _, _, g1, ⟨dx, vp, vs0, hx⟩, _⟩ := s.lend hs
  refine ⟨_, g1, x, dx, _, rfl, hx, dF_no _ _ _ _ hn, ?_⟩
  exact s.give (vs := []) (E := E0) hs hp (by rw [hE]; exact .nil) q
theorem evs_callD {c : CtD} (F : DefD X.prog X.w X.K X.mg X.base k C fn ps c) (i : Nat) (a : c.A) (hr : Room n X.A) (hg : Gl X fn) (ha : EvA X ρ es (c.enc a)) (hp : c.pre a) (hs : ρ[i]? = some (.mt (dskM C x l u (c.st a))) := by rfl) (hkn : k ≤ n := by decide)
    (hi : X.N[i]? = some y := by rfl) (hv : Vis X.env.scope y := by first | exact Or.inl rfl | exact Or.inr (Or.inl rfl) | exact Or.inr (Or.inr rfl)) (h1 : (y == ("__debug__" : Str)) = false := by decide) (h2 : (y == ("__classdict__" : Str)) = false := by decide)
    (hdb : (fn == ("__debug__" : Str)) = false := by decide) (he : starEach (.Name y p1 :: es) X.env = (false, eval (.Name y p1) X.env) :: starEach es X.env := by rfl) (hpl : (backTo pos (starEach es X.env)).any (·.1) = false := by rfl) : EvS X ρ (.Call (.Name fn p) (.Name y p1 :: es) [] pos) (Dk ρ i C x (c.new a)) (c.res a) := by
  obtain ⟨f, fd, F1, F2, F3, F4⟩ := F
  refine pe_imp (pe_call F1 (hr.mono hkn) hg F2 F3 F4.bd .nil pass0 (pa_cons (pe_var hi hv h1 h2) ha he) hdb he hpl) fun σ H Q ⟨F, O0, O1, s, q⟩ => ?_
  obtain ⟨_, _, _, _, g1, _, _⟩ := s.lend hs
  refine ⟨_, g1, F, O0, O1, s, fun vs ds H1 s1 e1 hd r1 => ?_⟩
  subst hd
  show spD C c ((V.ref x :: vs) ++ []) H1 Q E0
  rw [List.append_nil]
  exact s1.give hs hp r1 fun ρ' O1' v H' hm s' em r => q ρ' O1' v H' hm s' (e1.trans em) r
/-! errors -/
theorem ex_methX {cl : Ek → Addr} {c : CtRX} {E : XK} {pl : Sem Bool} {q0 : Ek} (F : MetX X.prog X.w X.K X.mg X.base k C m ps cl c) (i : Nat) (a : c.A) (hr : Room n X.A) (px : Passes (L2.CX X.prog X.w) X E) (T : DskT X.K C) (ha : EvA X ρ (e :: es) (c.enc a)) (hp : c.pre a) (hq : c.kind a = q0 := by rfl) (hs : ρ[i]? = some (.mt (dskM C x l u (c.st a))) := by rfl) (hn : notF m = true := by decide +kernel) (hkn : k ≤ n := by decide)
    (hi : X.N[i]? = some y := by rfl) (hv : Vis X.env.scope y := by first | exact Or.inl rfl | exact Or.inr (Or.inl rfl) | exact Or.inr (Or.inr rfl)) (h1 : (y == ("__debug__" : Str)) = false := by decide) (h2 : (y == ("__classdict__" : Str)) = false := by decide)
    (hst : starEach (e :: es) X.env = (false, eval e X.env) :: starEach es X.env := by rfl) (hpl : (backTo pos (starEach es X.env)).any (·.1) = false := by rfl)
    (ht : eval (.Call (.Attribute (.Name y p1) m apos) (e :: es) [] pos) X.env = (do
      let ov ← eval (.Name y p1) X.env
      standAt apos.atName
      let (f, first) ← holding [ov] (getMethod ov m pl)
      callWith pos f first (backTo pos (starEach (e :: es) X.env)) (backToKw pos (keywordEach [] X.env))) := by rfl) : EvX X cl ρ (.Call (.Attribute (.Name y p1) m apos) (e :: es) [] pos) (.err q0) E := by
  subst hq
  obtain ⟨f, fd, F1, F2, F3⟩ := F
  refine pe_imp (pe_meth (pe_var hi hv h1 h2) T.cl F2 F1 (hr.mono hkn) F3.bd .nil px ha hst hpl ht) fun σ H Q ⟨F, O0, O1, s, q⟩ => ?_
  obtain ⟨_, _, _, _, g1, ⟨dx, vp, vs0, hx⟩, _⟩ := s.lend hs
  refine ⟨_, g1, x, dx, _, rfl, hx, dF_no _ _ _ _ hn, F, O0, O1, s, fun vs ds H1 s1 e1 hd r1 => ?_⟩
  subst hd
  obtain ⟨O, al, dk, ex, _, _, _⟩ := s1.lend hs
  show spRX C cl c (.ref x :: (vs ++ [])) H1 Q E
  rw [List.append_nil]
  exact ⟨O, a, .ref x, vs, rfl, hp, al, dk, r1.mono (ex H1), fun H' e' => q H' (s1.ex e') (e1.trans e'.msk)⟩
theorem ex_methRX {cl : Ek → Addr} {c : CtRX} {E : XK} {pl : Sem Bool} {q0 : Ek} (F : MetX X.prog X.w X.K X.mg X.base k C m ps cl c) (i : Nat) (a : c.A) (hr : Room n X.A) (px : Passes (L2.CX X.prog X.w) X E) (T : DskT X.K C) (ha : EvA X ρ (e :: es) (c.enc a)) (hp : c.pre a) (hq : c.kind a = q0 := by rfl) (hs : ρ[i]? = some (.mt (dskR C (c.st a))) := by rfl) (hn : notF m = true := by decide +kernel) (hkn : k ≤ n := by decide)
    (hi : X.N[i]? = some y := by rfl) (hv : Vis X.env.scope y := by first | exact Or.inl rfl | exact Or.inr (Or.inl rfl) | exact Or.inr (Or.inr rfl)) (h1 : (y == ("__debug__" : Str)) = false := by decide) (h2 : (y == ("__classdict__" : Str)) = false := by decide)
    (hst : starEach (e :: es) X.env = (false, eval e X.env) :: starEach es X.env := by rfl) (hpl : (backTo pos (starEach es X.env)).any (·.1) = false := by rfl)
    (ht : eval (.Call (.Attribute (.Name y p1) m apos) (e :: es) [] pos) X.env = (do
      let ov ← eval (.Name y p1) X.env
      standAt apos.atName
      let (f, first) ← holding [ov] (getMethod ov m pl)
      callWith pos f first (backTo pos (starEach (e :: es) X.env)) (backToKw pos (keywordEach [] X.env))) := by rfl) : EvX X cl ρ (.Call (.Attribute (.Name y p1) m apos) (e :: es) [] pos) (.err q0) E := by
  subst hq
  obtain ⟨f, fd, F1, F2, F3⟩ := F
  refine pe_imp (pe_meth (pe_var hi hv h1 h2) T.cl F2 F1 (hr.mono hkn) F3.bd .nil px ha hst hpl ht) fun σ H Q ⟨F, O0, O1, s, q⟩ => ?_
  obtain ⟨v0, g1, dk, _⟩ := s.getM hs
  obtain ⟨x, l, u, _, _, dx, vp, vs, xs, ys, ee, hx, _⟩ := id dk
  refine ⟨_, g1, x, dx, _, ee, (msk_some hx).2, dF_no _ _ _ _ hn, F, O0, O1, s, fun vs ds H1 s1 e1 hd r1 => ?_⟩
  subst hd
  obtain ⟨v1, g2, dk1, _⟩ := s1.getM hs
  rw [g1] at g2
  cases g2
  show spRX C cl c (v0 :: (vs ++ [])) H1 Q E
  rw [List.append_nil]
  exact ⟨O1 ++ O0, a, v0, vs, rfl, hp, s1.al, dk1, r1, fun H' e' => q H' (s1.ex e') (e1.trans e'.msk)⟩
theorem ex_callRX {cl : Ek → Addr} {c : CtRX} {E : XK} {q0 : Ek} (F : DefRX X.prog X.w X.K X.mg X.base k C fn ps cl c) (i : Nat) (a : c.A) (hr : Room n X.A) (px : Passes (L2.CX X.prog X.w) X E) (hg : Gl X fn) (ha : EvA X ρ es (c.enc a)) (hp : c.pre a) (hq : c.kind a = q0 := by rfl) (hs : ρ[i]? = some (.mt (dskM C x l u (c.st a))) := by rfl) (hkn : k ≤ n := by decide)
    (hi : X.N[i]? = some y := by rfl) (hv : Vis X.env.scope y := by first | exact Or.inl rfl | exact Or.inr (Or.inl rfl) | exact Or.inr (Or.inr rfl)) (h1 : (y == ("__debug__" : Str)) = false := by decide) (h2 : (y == ("__classdict__" : Str)) = false := by decide)
    (hdb : (fn == ("__debug__" : Str)) = false := by decide) (he : starEach (.Name y p1 :: es) X.env = (false, eval (.Name y p1) X.env) :: starEach es X.env := by rfl) (hpl : (backTo pos (starEach es X.env)).any (·.1) = false := by rfl) : EvX X cl ρ (.Call (.Name fn p) (.Name y p1 :: es) [] pos) (.err q0) E := by
  subst hq
  obtain ⟨f, fd, F1, F2, F3, F4⟩ := F
  refine pe_imp (pe_call F1 (hr.mono hkn) hg F2 F3 F4.bd .nil px (pa_cons (pe_var hi hv h1 h2) ha he) hdb he hpl) fun σ H Q ⟨F, O0, O1, s, q⟩ => ?_
  obtain ⟨_, _, _, _, g1, _, _⟩ := s.lend hs
  refine ⟨_, g1, F, O0, O1, s, fun vs ds H1 s1 e1 hd r1 => ?_⟩
  subst hd
  obtain ⟨O, al, dk, ex, _, _, _⟩ := s1.lend hs
  show spRX C cl c ((V.ref x :: vs) ++ []) H1 Q E
  rw [List.append_nil]
  exact ⟨O, a, .ref x, vs, rfl, hp, al, dk, r1.mono (ex H1), fun H' e' => q H' (s1.ex e') (e1.trans e'.msk)⟩
/-- return e, e raises -/
theorem he_retX {cl : Ek → Addr} {E : XK} {R : Ek → Prop} {q0 : Ek} (he : EvX X cl ρ e (.err q0) E) (hR : R q0) : HEs X cl (.Return (some e) pos :: rest) ρ P R E :=
  he_cons (M := fun _ => False) (ps_imp (ps_ret he) fun Dn σ H ⟨F, O0, O1, s, _, _, _, _, u⟩ => ⟨F, O0, O1, s, fun H' s' e' => u q0 ρ O1 σ H' hR s'⟩) fun r z => z.elim
/-! stores -/
theorem hs_fldSome (T : DskT X.K C) (i : Nat) (he : Ev X ρ e d) (kk : HSs X rest (ρ.set i (.mt (dskM C x l u { D with some := d }))) P) (hs : ρ[i]? = some (.mt (dskM C x l u D)) := by rfl)
    (hi : X.N[i]? = some y := by rfl) (hv : Vis X.env.scope y := by first | exact Or.inl rfl | exact Or.inr (Or.inl rfl) | exact Or.inr (Or.inr rfl)) (h1 : (y == ("__debug__" : Str)) = false := by decide) (h2 : (y == ("__classdict__" : Str)) = false := by decide)
    (hsw : swapsWith e (some (.Attribute (.Name y p1) "some" p)) pos.line X.env = pure false := by rfl) : HSs X (.Assign [.Attribute (.Name y p1) "some" p] e pos :: rest) ρ P :=
  hs_cons (M := (· = ρ.set i (.mt (dskM C x l u { D with some := d })))) (ps_imp (ps_fld (pe_var hi hv h1 h2) he hsw) fun Dn σ H ⟨F, O0, O1, s, a, b, k, t⟩ => ⟨F, O0, O1, s, fun v d' H' s' em hd r => by
    subst hd
    obtain ⟨v0, g1, ⟨g2, g3, g4, g5, dx, vp, vs, xs, ys, a1, a2, a3, a4, a5, a6, a7⟩, gf⟩ := s'.getM hs
    refine ⟨v0, g1, x, C, dx, _, g2, a1, T.cl, T.ns, (by show 4 < 1000; decide), ?_⟩
    rw [dF_put_some]
    have nl : l ≠ x := fun z => by rw [z, a1] at a2; cases a2
    have nu : u ≠ x := fun z => by rw [z, a1] at a3; cases a3
    obtain ⟨O, s2, em2, _⟩ := s'.move (m' := dskM C x l u { D with some := d }) (H' := upd H' x (.ins C dx (dF vp v l u))) hs (fun z o hz => by
      obtain ⟨z1, z2⟩ := msk_some hz
      rw [upd_ne fun w => z1 (by rw [w]; simp [dskM])]
      exact z2) (fun z hz => .inl hz) fun w O hO em2 hw hP => ⟨hP.1, g3, g4, g5, dx, vp, v, xs, ys, upd_same, (upd_ne nl).trans a2, (upd_ne nu).trans a3, a4.mono em2, a5.mono em2, a6.mono em2, r.mono em2⟩
    exact a _ O σ _ rfl s2⟩) fun r z => by subst z; exact kk
theorem hs_fldUndone (T : DskT X.K C) (i : Nat) (kk : ∀ u', HSs X rest (ρ.set i (.mt (dskM C x l u' { D with un := [] }))) P) (hs : ρ[i]? = some (.mt (dskM C x l u D)) := by rfl)
    (hi : X.N[i]? = some y := by rfl) (hv : Vis X.env.scope y := by first | exact Or.inl rfl | exact Or.inr (Or.inl rfl) | exact Or.inr (Or.inr rfl)) (h1 : (y == ("__debug__" : Str)) = false := by decide) (h2 : (y == ("__classdict__" : Str)) = false := by decide)
    (hsw : swapsWith (.List [] cpos) (some (.Attribute (.Name y p1) "undone" p)) pos.line X.env = pure false := by rfl) : HSs X (.Assign [.Attribute (.Name y p1) "undone" p] (.List [] cpos) pos :: rest) ρ P :=
  hs_cons (M := fun r => ∃ u', r = ρ.set i (.mt (dskM C x l u' { D with un := [] }))) (ps_imp (ps_fld (pe_var hi hv h1 h2) (pe_lst pa_nil) hsw) fun Dn σ H ⟨F, O0, O1, s, a, b, k, t⟩ => ⟨Nat.zero_le _, fun u' hu' => by
    obtain ⟨v0, g1, ⟨g2, g3, g4, g5, dx, vp, vs, xs, ys, a1, a2, a3, a4, a5, a6, a7⟩, gf⟩ := s.getM hs
    have nx : x ≠ u' := fun z => by rw [z, hu'] at a1; cases a1
    have nl : l ≠ u' := fun z => by rw [z, hu'] at a2; cases a2
    have nlx : l ≠ x := fun z => by rw [z, a1] at a2; cases a2
    refine ⟨v0, g1, x, C, dx, _, g2, (upd_ne nx).trans a1, T.cl, T.nu, (by show 4 < 1000; decide), ?_⟩
    rw [dF_put_undone]
    obtain ⟨O, s2, em2, _⟩ := s.move (m' := dskM C x l u' { D with un := [] }) (H' := upd (upd H u' (.lst [])) x (.ins C dx (dF vp vs l u'))) hs (fun z o hz => by
      obtain ⟨z1, z2⟩ := msk_some hz
      rw [upd_ne fun w => z1 (by rw [w]; simp [dskM]), upd_ne (ne_of_none z2 hu')]
      exact z2) (fun z hz => by
        simp only [dskM, List.mem_cons, List.not_mem_nil, or_false] at hz ⊢
        rcases hz with hz | hz | hz
        · exact .inl (.inl hz)
        · exact .inl (.inr (.inl hz))
        · rw [hz]; exact .inr hu') fun w O hO em2 hw hP => ⟨hP.1, nl, g4, Nat.zero_le _, dx, vp, vs, xs, [], upd_same, (upd_ne nlx).trans ((upd_ne nl).trans a2), (upd_ne (Ne.symm nx)).trans upd_same, a4.mono em2, .nil, a6.mono em2, a7.mono em2⟩
    exact a _ O σ _ ⟨u', rfl⟩ s2⟩) fun r ⟨u', z⟩ => by subst z; exact kk u'
/-- y.done.append(e) -/
theorem hs_doneAppend (T : DskT X.K C) (i : Nat) (he : Ev X ρ e d) (hl : D.dn.length + 1 ≤ big) (kk : HSs X rest (ρ.set i (.mt (dskM C x l u { D with dn := D.dn ++ [d] }))) P) (hs : ρ[i]? = some (.mt (dskM C x l u D)) := by rfl)
    (hi : X.N[i]? = some y := by rfl) (hv : Vis X.env.scope y := by first | exact Or.inl rfl | exact Or.inr (Or.inl rfl) | exact Or.inr (Or.inr rfl)) (h1 : (y == ("__debug__" : Str)) = false := by decide) (h2 : (y == ("__classdict__" : Str)) = false := by decide)
    (hb : attributeBase (.Name y p1) "done" X.env (eval (.Name y p1) X.env) = eval (.Name y p1) X.env := by rfl)
    (b1 : attributeBase (.Attribute (.Name y p1) "done" p) "append" X.env (eval (.Attribute (.Name y p1) "done" p) X.env) = eval (.Attribute (.Name y p1) "done" p) X.env := by rfl)
    (b2 : (((backTo cpos (starEach [e] X.env)).all fun z => !z.fst) && (backToKw cpos (keywordEach [] X.env)).all (fun z => z.fst.isSome) && decide ([e].length + ([] : List Keyword).length + (if ([] : List Keyword).isEmpty = true then 0 else 1) < 30)) = true := by rfl)
    (b3 : (apos.endLine == cpos.line) = true := by rfl) (b4 : starEach [e] X.env = (false, eval e X.env) :: starEach [] X.env := by rfl) (b5 : (backTo cpos (starEach [] X.env)).any (fun z => z.fst) = false := by rfl)
    (hsw : swapsWith (.Call (.Attribute (.Attribute (.Name y p1) "done" p) "append" apos) [e] [] cpos) none epos.line X.env = pure false := by rfl) :
    HSs X (.Expr (.Call (.Attribute (.Attribute (.Name y p1) "done" p) "append" apos) [e] [] cpos) epos :: rest) ρ P :=
  hs_cons (M := (· = ρ.set i (.mt (dskM C x l u { D with dn := D.dn ++ [d] })))) (ps_imp (ps_expr (pe_bm PySem.F.plainAttrs_list PySem.F.slot_list_append PySem.F.type_list_append mt_append (pe_fld (pe_var hi hv h1 h2) hb) (pa_cons he pa_nil b4) b1 b2 b3 b4 b5) hsw) fun Dn σ H ⟨F, O0, O1, s, a, b, k, t⟩ => by
    obtain ⟨v0, g1, ⟨g2, g3, g4, g5, dx, vp, vs, xs, ys, a1, a2, a3, a4, a5, a6, a7⟩, gf⟩ := s.getM hs
    refine ⟨v0, g1, x, C, dx, _, _, g2, a1, T.cl, T.nd, dF_done .., .inl ⟨rfl, xs, SqL.of a2⟩, F, O0, O1, s, fun v d' H' s' em hd r => ?_⟩
    subst hd
    obtain ⟨v0', g1', ⟨g2', _, _, _, dx', vp', vs', xs', ys', a1', a2', a3', a4', a5', a6', a7'⟩, gf'⟩ := s'.getM hs
    refine ⟨l, xs', v, rfl, rfl, a2', ?_, ?_⟩
    · rw [a4'.len]
      exact Nat.lt_of_lt_of_le (Nat.lt_succ_self _) (le_line hl)
    have nxl : x ≠ l := fun z => by rw [← z, a1'] at a2'; cases a2'
    have nul : u ≠ l := Ne.symm g3
    obtain ⟨O, s2, em2, _⟩ := s'.move (m' := dskM C x l u { D with dn := D.dn ++ [d] }) (H' := upd H' l (.lst (xs' ++ [v]))) hs (fun z o hz => by
      obtain ⟨z1, z2⟩ := msk_some hz
      rw [upd_ne fun w => z1 (by rw [w]; simp [dskM])]
      exact z2) (fun z hz => .inl hz) fun w O hO em2 hw hP => ⟨hP.1, g3, by show (D.dn ++ [d]).length ≤ big; rw [List.length_append]; exact hl, g5, dx', vp', vs', xs' ++ [v], ys', (upd_ne nxl).trans a1', upd_same, (upd_ne nul).trans a3', (a4'.append (.cons r .nil)).mono em2, a5'.mono em2, a6'.mono em2, a7'.mono em2⟩
    exact a _ O σ _ rfl s2) fun r z => by subst z; exact kk
end
end PL

namespace PL
open PySem PySem.Spec PyProof.Rows L2 LamX
/-! ## how a call ends that changes a desk -/
def tOu2 (cl : Ek → Addr) (ρ : List SD) (M : List SD → Prop) (o : Out) (E : XK) : TE := fun σ H Q => ∃ F O0 O1, SA F O0 O1 ρ σ H ∧
  ∀ ρ' O1' H', M ρ' → SA F O0 O1' ρ' σ H' → Ex (msk (O1 ++ O0) H) (msk (O1' ++ O0) H') → OutP cl o E Q (O1' ++ O0) H'
abbrev EvXS (X : Cx) (cl : Ek → Addr) (ρ : List SD) (M : List SD → Prop) (e : Expr) (o : Out) (E : XK) : Prop := PE X e (tOu2 cl ρ M o E)
section
variable {X : Cx} {cl : Ek → Addr} {ρ : List SD} {M : List SD → Prop} {e : Expr} {E : XK}
theorem exs_val {d : PyData} (h : EvS X ρ e M d) : EvXS X cl ρ M e (.val d) E := pe_imp h fun σ H Q ⟨F, O0, O1, s, q⟩ => ⟨F, O0, O1, s, fun ρ' O1' v H' hm s' e' r => q ρ' O1' H' hm s' e' v r⟩
theorem exs_err {k : Ek} (h : EvX X cl ρ e (.err k) E) (hM : M ρ) : EvXS X cl ρ M e (.err k) E := pe_imp h fun σ H Q ⟨F, O0, O1, s, q⟩ => ⟨F, O0, O1, s, fun H' s' e' => q ρ O1 H' hM s' e'⟩
end
def ActOf2 (X : Cx) (cl : Ek → Addr) (a : Str) (f : Addr) (o : Out) (S : Hp → Prop) (S' : List Addr → Hp → Prop) (O : List Addr) : Prop :=
  ∀ (W : WX) (pn : List (Addr × Obj)) (xe : Value → Shared → Prop) (E : XK) (p1 p2 : Pos), Takes (X.tr pn xe) W → (∀ cls d σ' H', E cls d H' → W cls d σ' H') →
    PE (X.tr pn xe) (.Call (.Name a p1) [] [] p2) (fun σZ HZ Q1 => σZ[0]? = some (some (.ref f)) ∧ S HZ ∧ ∀ O' H2, S' O' H2 → Ex (msk O HZ) (msk O' H2) → OutP cl o E Q1 O' H2)
def DefQ (P : Program) (w : World) (K : PySem.W.Frag) (mg : Str → Option Value) (base : Heap) (k : Nat) (x : Str) (cl : Ek → Addr) : Prop :=
  ∃ (g : Addr) (a : Str) (Ng : List Str) (pg : Arguments) (bg : List Stmt) (sg : Scope) (dV kV doc pm cdv ct oc : Value) (an od : Option Addr) (osl : Array (Option Value)),
    mg x = some (.ref g) ∧ PySem.W.keepIn K (.ref g) = true ∧ K.lookup g = some ⟨oc, od, .func (PySem.W.fnOf x x pg bg sg dV kV doc pm an cdv ct), osl⟩ ∧ PySem.W.codeIn K cdv x = true ∧ L2.Binds K (PySem.W.fnOf x x pg bg sg dV kV doc pm an cdv ct) [a] [] ∧
    FnScope Ng [a] sg ∧ Ng[0]? = some a ∧ Vis sg a ∧ (a == ("__debug__" : Str)) = false ∧ (a == ("__classdict__" : Str)) = false ∧
    ∀ (A : Around) (outer : List Env) (s : Shared) (H : Hp) (f : Addr) (o : Out) (S : Hp → Prop) (S' : List Addr → Hp → Prop) (O : List Addr) (Q : VK), Room k (A.deeper (envOfC x sg s.heap.objs.size g cdv)) → S H → (∀ H1 H2, S H1 → Ex H1 H2 → S H2) → (∀ O' H1 H2, S' O' H1 → Ex H1 H2 → S' O' H2) →
      (∀ H1, S H1 → Al O H1) → (∀ O' H1, S' O' H1 → Al O' H1) → ActOf2 (cxOf C8.CX0 P w K mg base Ng x sg g cdv A outer s H C8.E0) cl a f o S S' O → (∀ O' v H3, S' O' H3 → Rp (msk O' H3) v o.d → Q v H3) →
      ∃ t, PSs (cxOf C8.CX0 P w K mg base Ng x sg g cdv A outer s H C8.E0).nox bg t ∧ t { nx := fun _ H' => Q .non H', rt := Q } (L2.start Ng [.ref f]) H
section
variable {X : Cx} {cl : Ek → Addr} {ρ : List SD}
theorem ev_lam2 {T : List (Addr × Str)} {x : Str} {k c P : Addr} {M : List SD → Prop} {o : Out} {params : Arguments} {body : Expr} {scope : Scope} {p lpos pos : Pos} (R : DefQ X.prog X.w X.K X.mg X.base (k + 1) x cl) (j : Nat) (hr : Room (k + 2) X.A) (hg : Gl X x) (TB : TabB X.base X.mg c P) (hcode : X.env.code = .ref c)
    (hmT : (P, X.env.qual ++ "<lambda>") ∈ T) (hu : ∀ p ∈ T, p.1 = P → p.2 = X.env.qual ++ "<lambda>") (L : LamS X.env.scope scope)
    (hbody : ∀ (A : Around) (outer : List Env) (s : Shared) (H : Hp) (E : XK) (f c' : Addr), Room k (A.deeper (lamEnv X scope s.heap.objs.size f c')) → Passes (L2.CX X.prog X.w) (lamCx X A outer s H E scope f c') E → EvXS (lamCx X A outer s H E scope f c') cl ρ M body o E)
    (hj : ρ[j]? = some (.mt (tabM T)) := by rfl) (hdef : defaultsOf params X.env = ([], []) := by rfl)
    (hbind : ∀ (q : Str) (cl : List (Str × Addr)) (pm cv ctv : Value), bindArgs (PySem.W.kla_fn "<lambda>" q params body scope cl pm cv ctv) ⟨[], []⟩ = pure [] := by intros; rfl)
    (hdb : (x == ("__debug__" : Str)) = false := by decide) : EvS X ρ (.Call (.Name x p) [.Lambda params body scope lpos] [] pos) M o.d := by
  obtain ⟨g, a, Ng, pg, bg, sg, dV, kV, doc, pm, cdv, ct, oc, an, od, osl, hm, hk, lk, hcg, hb, Sg, hNg, hva, hd, hcd, hG⟩ := R
  refine ⟨fun pins s σ H Q I ⟨F, O0, O1, sa, q⟩ => ?_⟩
  obtain ⟨v, e1, ⟨_, hT⟩, hfp⟩ := sa.getM hj
  obtain ⟨ps, hP, ht, ha⟩ := hT _ hmT
  refine wpAny_Call_Name_kw (ld_glob I hg hm ?_ hdb)
  refine PySem.W.callWith_K (h₀ := X.base) I.ok.mod.kin hk ?_ (by rfl) (by rfl)
  show wpAny _ _ (spliced ((false, eval (.Lambda params body scope lpos) X.env) :: backTo pos (starEach [] X.env))) _ _ s
  refine Calls.spliced_cons (lam_make3 (Z := fun c => msk (O1 ++ O0) H c = some (CodeO c (X.env.qual ++ "<lambda>"))) I TB hcode hP ht (fun pos cv hc => by
    obtain ⟨c1, z1, z2⟩ := ha pos cv hc
    exact ⟨c1, z1, (msk_some z2).2, z2⟩) hdef (L.has I.ok) fun f c' pm' ctv H1 s' I1 hH hf hfn hfr hco => ?_)
  refine Calls.spliced_nil ⟨I1.kIn, ?_⟩
  have sP : P ∈ (tabM T).fp := List.mem_map.mpr ⟨_, hmT, rfl⟩
  have st : SA F O0 O1 ρ σ H1 ∧ Ex (msk (O1 ++ O0) H) (msk (O1 ++ O0) H1) ∧ msk (O1 ++ O0) H1 c' = some (CodeO c' (X.env.qual ++ "<lambda>")) := by
    rcases hH with ⟨e, z⟩ | ⟨more, nC, nP, e, ht2, ha2⟩
    · rw [e]
      exact ⟨sa, Ex.refl _, z⟩
    · have nO : c' ∉ O1 ++ O0 := fun z => sa.al c' z nC
      have ex : Ex (msk (tabM T).fp H) H1 := fun b u hb => by
        obtain ⟨z1, z2⟩ := msk_some hb
        rw [e, upd_ne (ne_of_none z2 nC), upd_ne fun z => z1 (by rw [z]; exact sP)]
        exact z2
      have ec : msk (O1 ++ O0) H1 c' = some (CodeO c' (X.env.qual ++ "<lambda>")) := by
        rw [msk_out nO, e, upd_same]
      have em0 : ∀ b u, msk (O1 ++ O0) H b = some u → msk (O1 ++ O0) H1 b = some u := fun b u hb => by
        obtain ⟨z1, z2⟩ := msk_some hb
        rw [msk_out z1]
        refine ex b u ?_
        rw [msk_out fun z => z1 (List.mem_append_left _ (hfp b z))]
        exact z2
      obtain ⟨s1, em⟩ := sa.updMt hj ex fun v' hv' => by
        rw [e1] at hv'
        cases hv'
        refine ⟨by assumption, fun p hp => ?_⟩
        by_cases hb : p.1 = P
        · refine ⟨ps ++ more, ?_, ht2, fun pos cv hc => ?_⟩
          · rw [hb, e, upd_ne (Ne.symm nP), upd_same]
          · rw [hu p hp hb]
            rcases ha2 pos cv hc with z | z
            · obtain ⟨c1, z1, z2⟩ := ha pos cv z
              exact ⟨c1, z1, em0 _ _ z2⟩
            · exact ⟨c', z, ec⟩
        · obtain ⟨ps2, w1, w2, w3⟩ := hT p hp
          refine ⟨ps2, ?_, w2, fun pos cv hc => ?_⟩
          · rw [e, upd_ne (ne_of_none w1 nC), upd_ne hb]
            exact w1
          · obtain ⟨c1, z1, z2⟩ := w3 pos cv hc
            exact ⟨c1, z1, em0 _ _ z2⟩
      exact ⟨s1, em, ec⟩
  obtain ⟨s1, em, hZ⟩ := st
  have S1 : SA F O0 O1 ρ σ H1 ∧ Ex (msk (O1 ++ O0) H1) (msk (O1 ++ O0) H1) := ⟨s1, Ex.refl _⟩
  have rc : codeAny (model X.prog X.w) X.A (.call (.ref g) ⟨[.ref f], []⟩) (CR C8.CX0 X.stack X.prog X.w H1 s' Q C8.E0) s' := by
    refine run_ofS (N := Ng) (ps := [a]) (us := [.ref f]) (vs := [.ref f]) lk hcg Sg hr I1.env0 (hb s' [.ref f] I1.kIn rfl) (.cons rfl .nil) rfl fun hr' => ?_
    have hAct : ActOf2 (cxOf C8.CX0 X.prog X.w X.K X.mg X.base Ng x sg g cdv X.A X.stack s' H1 C8.E0) cl a f o (fun H2 => SA F O0 O1 ρ σ H2 ∧ Ex (msk (O1 ++ O0) H1) (msk (O1 ++ O0) H2)) (fun O' H2 => ∃ ρ' O1', M ρ' ∧ O' = O1' ++ O0 ∧ SA F O0 O1' ρ' σ H2 ∧ Ex (msk (O1 ++ O0) H1) (msk O' H2)) (O1 ++ O0) := by
      intro W pn xe E p1 p2 tk hW
      refine pe_imp (pe_act (i := 0) (tb := tOu2 cl ρ M o E) I1 L hf hfn hfr (hbind _ _ _ _ _) tk hW hr' (fun A outer s H hr2 => hbody A outer s H E f c' hr2 (passes_call (takes_of rfl rfl rfl rfl) fun _ _ _ _ h => h)) hNg hva hd hcd) fun σZ HZ Q1 ⟨h1, h2, h3⟩ => ?_
      exact ⟨h1, (msk_some (h2.2 _ _ hZ)).2, F, O0, O1, h2.1, fun ρ' O1' H' hm s' e' => h3 (O1' ++ O0) H' ⟨ρ', O1', hm, rfl, s', h2.2.trans e'⟩ e'⟩
    obtain ⟨t', ht', hq'⟩ := hG X.A X.stack s' H1 f o _ _ (O1 ++ O0) Q hr' S1 (fun Ha Hb ⟨h1, h2⟩ e => ⟨h1.ex e, h2.trans e.msk⟩) (fun O' Ha Hb ⟨ρ', O1', hm, ee, h1, h2⟩ e => ⟨ρ', O1', hm, ee, h1.ex e, h2.trans e.msk⟩) (fun Ha h => h.1.al) (fun O' Ha ⟨ρ', O1', hm, ee, h1, h2⟩ => by rw [ee]; exact h1.al) hAct
      (fun O' v H3 ⟨ρ', O1', hm, ee, h1, h2⟩ r => by
        subst ee
        exact q ρ' O1' v H3 hm h1 (em.trans h2) r)
    exact ⟨t', ht'.nox, hq'⟩
  refine wpAny_call (codeAny_mono rc fun r s2 hq => ?_)
  cases r with
  | error e => exact (show False from hq).elim
  | ok fl =>
    cases fl with
    | ret u => exact I1.after hq
    | next => exact False.elim hq
    | brk => exact False.elim hq
    | cont => exact False.elim hq
end
section
variable {X : Cx} {cl : Ek → Addr} {CS : Addr} {a rn an en : Str} {ir ia ie : Nat} {f : Addr} {o : Out} {S : Hp → Prop} {S' : List Addr → Hp → Prop} {O : List Addr} {Q : VK} {H : Hp} {ρ1 : List SD} {st1 : Stmt} {rest : List Stmt} {ap p1 p2 p3 np q1 q2 q3 pos pos' : Pos}
theorem result_run2 (T : ErrT X.K cl CS) (hs : X.stack = X.env :: X.outer) (hf : X.env.frame = some X.env.locals) (hex : X.ex = []) (hN : X.N.Nodup) (hia : X.N[ia]? = some an) (hxa : Loc X.env.scope an) (hfa : X.fn an = true)
    (hie : X.N[ie]? = some en) (hle : X.env.kindOf en = some .local) (hir : X.N[ir]? = some rn) (hlr : X.env.kindOf rn = some .local) (hne : ie ≠ ir) (hc : Names X "LoanError" (.ref CS)) (hpl : plainAt (List.replicate X.N.length .un) ir = true) (hpa : plainAt ρ1 ia = true)
    (hsw1 : swapsWith (.Call (.Name a p1) [] [] p2) (some (.Name an ap)) p3.line X.env = pure false) (hsw2 : swapsWith (.Name en q2) (some (.Name rn q1)) q3.line X.env = pure false) (hd1 : (en == ("__debug__" : Str)) = false) (hd2 : (en == ("__classdict__" : Str)) = false)
    (hS : S H) (hSx : ∀ H1 H2, S H1 → Ex H1 H2 → S H2) (hSx' : ∀ O' H1 H2, S' O' H1 → Ex H1 H2 → S' O' H2) (hSal : ∀ H1, S H1 → Al O H1) (hSal' : ∀ O' H1, S' O' H1 → Al O' H1) (hact : ActOf2 X cl a f o S S' O) (hQ : ∀ O' v H3, S' O' H3 → Rp (msk O' H3) v o.d → Q v H3)
    (hlen : X.N.length = (X.N.length - 1) + 1) (hρ0 : ρ1[0]? = some (.mt (fnM f))) (hb1 : ∀ s ∈ ρ1, bareSD s)
    (h1 : HS X.nox st1 (.mt (fnM f) :: List.replicate (X.N.length - 1) .un) { nx := (· = ρ1), rt := fun _ _ => False })
    (hV : ∀ d, o = .val d → HSs X.nox rest (ρ1.set ia (.dat d)) { nx := fun _ => False, rt := fun d' _ => d' = o.d })
    (hE : ∀ k e, o = .err k → HSs X.nox rest ((List.replicate X.N.length .un).set ir (.mt (excM e (.ref (cl k))))) { nx := fun _ => False, rt := fun d' _ => d' = o.d }) :
    ∃ t, PSs X.nox (st1 :: .Try [.Assign [.Name an ap] (.Call (.Name a p1) [] [] p2) p3] [.ExceptHandler (some (.Name "LoanError" np)) (some en) [.Assign [.Name rn q1] (.Name en q2) q3] pos'] [] [] pos :: rest) t ∧ t { nx := fun _ H' => Q .non H', rt := Q } (L2.start X.N [.ref f]) H := by
  have s0 : SA H O [] (.mt (fnM f) :: List.replicate (X.N.length - 1) .un) (L2.start X.N [.ref f]) H := by
    refine ⟨Ex.refl _, ?_, fun b hb => (by cases hb), hSal H hS⟩
    show Sl _ H _ (some (V.ref f) :: List.replicate (X.N.length - 1) none) []
    exact Sl.mt (m := fnM f) rfl (fun b hb => by cases hb) (Sl.uns (by simp))
  have done : ∀ (O' : List Addr) (ρ : List SD) (σ2 : Sg) (H2 : Hp), S' O' H2 → Sl (msk O' H2) H2 ρ σ2 [] → tS ρ { nx := fun _ => False, rt := fun d' _ => d' = o.d } { nx := fun _ H' => Q .non H', rt := Q } σ2 H2 := fun O' ρ σ2 H2 h2 sl =>
    ⟨H2, O', [], ⟨Ex.refl _, sl, fun b hb => (by cases hb), hSal' O' H2 h2⟩, fun _ _ _ _ z => z.elim, fun v d' ρ' O1' σ' H' hd s' r => by
      subst hd
      exact hQ O' v H' (hSx' O' H2 H' h2 s'.fr) (r.mono (Ex.mskSub fun b hb => List.mem_append_right _ hb)), fun _ _ _ _ z => z.elim, fun _ _ _ _ z => z.elim⟩
  have bare1 : ∀ {O1' : List Addr} {σ1 : Sg} {H1 : Hp}, SA H O O1' ρ1 σ1 H1 → Sl (msk O H1) H1 ρ1 σ1 [] ∧ σ1[0]? = some (some (.ref f)) ∧ S H1 := fun {O1' σ1 H1} s1 => by
    have e := s1.sl.bare hb1
    subst e
    obtain ⟨v, g1, g2, _⟩ := s1.sl.getM hρ0
    have g2' : v = .ref f := g2
    subst g2'
    exact ⟨s1.sl, g1, hSx H H1 hS s1.fr⟩
  cases o with
  | val d =>
    have hp : PE (X.tr X.pn fun _ _ => False) (.Call (.Name a p1) [] [] p2) _ := hact (fun _ _ _ _ => False) X.pn (fun _ _ => False) C8.E0 p1 p2 (fun u s z => by
      obtain ⟨_, _, _, _, _, _, _, _, _, _, _, _, _, _, _, _, z⟩ := z
      exact z.elim) (fun _ _ _ _ z => z)
    refine ⟨_, pss_cons h1 (pss_cons (ps_try_thru0 (X := X.nox) (show PSs X.nox.nox _ _ from pss_one (ps_set (X := X.nox.nox) hN hia hxa hp hsw1 (.inl hfa)))) (hV d rfl)), ?_⟩
    refine ⟨H, O, [], s0, fun ρ' O1' σ1 H1 e s1 => ?_, fun _ _ _ _ _ _ z => z.elim, fun _ _ _ _ z => z.elim, fun _ _ _ _ z => z.elim⟩
    subst e
    obtain ⟨sl, g0, hS1⟩ := bare1 s1
    refine ⟨g0, hS1, fun O' H2 hS2 ex v r => ?_⟩
    exact done O' _ _ H2 hS2 ((sl.mono ex fun b hb => by cases hb).set hpa r)
  | err k =>
    have hb : ∀ (W : WX) (pn : List (Addr × Obj)) (xe : Value → Shared → Prop), Takes (X.nox.tr pn xe) W → PSs (X.nox.tr pn xe) [.Assign [.Name an ap] (.Call (.Name a p1) [] [] p2) p3]
        (fun D σ H => ∃ Ech : XK, (∀ cls d σ' H', Ech cls d H' → W cls d σ' H') ∧ σ[0]? = some (some (.ref f)) ∧ S H ∧ ∀ O' H2, S' O' H2 → Ex (msk O H) (msk O' H2) → Ech (.ref (cl k)) none H2) := fun W pn xe tk =>
      ⟨fun pins s σ H D I ⟨Ech, hW, g1, g2, g3⟩ => (pss_one (ps_set (X := X.tr pn xe) hN hia hxa (hact W pn xe Ech p1 p2 tk hW) hsw1 (.inl hfa))).run pins s σ H D I ⟨g1, g2, g3⟩⟩
    have hR : PSs X.nox rest (fun D σ H => ∃ e : Addr, True ∧ tS ((List.replicate X.N.length .un).set ir (.mt (excM e (.ref (cl k))))) { nx := fun _ => False, rt := fun d' _ => d' = Out.d (.err k) } D σ H) := pss_any fun e _ => hE k e rfl
    refine ⟨_, pss_cons h1 (pss_cons (ps_try_keep (X := X.nox) hs hf hex hN hie hle hir hlr hc hsw2 hb hd1 hd2) hR), ?_⟩
    refine ⟨H, O, [], s0, fun ρ' O1' σ1 H1 e s1 => ?_, fun _ _ _ _ _ _ z => z.elim, fun _ _ _ _ z => z.elim, fun _ _ _ _ z => z.elim⟩
    subst e
    obtain ⟨sl, g0, hS1⟩ := bare1 s1
    refine ⟨fun cls d H2 => cls = .ref (cl k) ∧ d = none ∧ ∃ O', S' O' H2, fun cls d σ' H2 hh => ?_, g0, hS1, fun O' H2 hS2 _ => ⟨rfl, rfl, O', hS2⟩⟩
    obtain ⟨rfl, rfl, O', hS2⟩ := hh
    refine ⟨rfl, T.exm k, fun e na hl => ⟨e, True.intro, ?_⟩⟩
    have hS3 := hSx' O' H2 _ hS2 (Ex.new (o := .ext (ExcZ (.ref (cl k)) e)) na)
    refine done O' _ _ _ hS3 ?_
    have nO : e ∉ O' := fun z => hSal' O' H2 hS2 e z na
    rw [List.set_comm _ _ (Ne.symm hne)]
    exact Sl.setM0 (m := excM e (.ref (cl k))) rfl ⟨rfl, msk_upd nO⟩ (Sl.uns (by simpa using hl)) hpl
end
end PL

namespace PL
open PySem PySem.Spec PyProof.Rows L2
/-! ## desks, new -/
def newD (d : PyData) : Dsk := ⟨d, .tuple [], [], []⟩
def spI (C : Addr) (c : Ct) : Sp := fun vs H Q _ => ∃ (O0 : List Addr) (x dx : Addr) (vp : V) (d : PyData) (a : c.A), vs = [.ref x, vp] ∧ c.enc a = [d] ∧ c.pre a ∧ Al O0 H ∧ x ∉ O0 ∧ H x = some (.ins C dx []) ∧ Rp (msk ([x] ++ O0) H) vp d ∧
  ∀ l u H', H l = none → H u = none → Ex (msk [x] H) H' → (dskM C x l u (newD d)).P (msk ([x, l, u] ++ O0) H') H' (.ref x) → Q .non H'
def spIX (cl : Ek → Addr) (C : CtX) : Sp := fun vs H Q E => ∃ (O : List Addr) (a : C.A) (v0 : V) (us : List V), vs = v0 :: us ∧ C.pre a ∧ Al O H ∧ RpA (msk O H) us (C.enc a) ∧ ∀ H', Ex H H' → E (.ref (cl (C.kind a))) none H'
def MakI (P : Program) (w : World) (K : PySem.W.Frag) (mg : Str → Option Value) (base : Heap) (k : Nat) (C : Addr) (x : Str) (ps : List Str) (c : Ct) : Prop := ∃ f fd, FnOk P w K mg base CX0 k f fd ps (spI C c) ∧ Mk K C f ∧ mg x = some (.ref C) ∧ Kw fd ps
def MakX (P : Program) (w : World) (K : PySem.W.Frag) (mg : Str → Option Value) (base : Heap) (k : Nat) (C : Addr) (x : Str) (ps : List Str) (cl : Ek → Addr) (c : CtX) : Prop := ∃ f fd, FnOk P w K mg base (L2.CX P w) k f fd ps (spIX cl c) ∧ Mk K C f ∧ mg x = some (.ref C) ∧ Kw fd ps
theorem Kw.kbn {K : PySem.W.Frag} {fd : FuncData} {p q : Str} (h : Kw fd [p, q]) : KBn K fd [p, q] 1 [q] (fun us ws => us ++ ws) (fun vs zs => vs ++ zs) := by
  refine ⟨fun s us ws _ h1 h2 => ?_, fun r1 r2 => r1.append r2⟩
  have e := h us ws (by rw [h1, h2]; rfl)
  rw [h1] at e
  exact .of_eq e
/-- a new thing, with its places -/
theorem SA.grow {F H H' : Hp} {O0 O1 B : List Addr} {ρ : List SD} {σ : Sg} (s : SA F O0 O1 ρ σ H) (ex : Ex H H') (nw : ∀ b ∈ B, H b = none) (lv : ∀ b ∈ B, H' b ≠ none) :
    SA F (B ++ O0) O1 ρ σ H' ∧ Ex (msk (O1 ++ O0) H) (msk (O1 ++ (B ++ O0)) H') ∧ (∀ b ∈ B, F b = none ∧ b ∉ O1 ++ O0) := by
  have out : ∀ b ∈ B, b ∉ O1 ++ O0 := fun b hb z => s.al b z (nw b hb)
  have em : Ex (msk (O1 ++ O0) H) (msk (O1 ++ (B ++ O0)) H') := fun a o h => by
    obtain ⟨z1, z2⟩ := msk_some h
    rw [msk_out fun z => ?_]
    · exact ex _ _ z2
    · rcases List.mem_append.mp z with z | z
      · exact z1 (List.mem_append_left _ z)
      · rcases List.mem_append.mp z with z | z
        · rw [nw a z] at z2; cases z2
        · exact z1 (List.mem_append_right _ z)
  have hF : ∀ b ∈ B, F b = none := fun b hb => by
    cases y : F b with
    | none => rfl
    | some o => have := s.fr b o y; rw [nw b hb] at this; cases this
  refine ⟨⟨s.fr.trans ex, s.sl.mono em fun a ha => ?_, fun a ha => ⟨(s.new a ha).1, fun z => ?_⟩, fun b hb => ?_⟩, em, fun b hb => ⟨hF b hb, out b hb⟩⟩
  · cases y : H a with
    | none => exact absurd y (s.sl.al a ha)
    | some o => exact ex _ _ y
  · rcases List.mem_append.mp z with z | z
    · exact s.sl.al a ha (nw a z)
    · exact (s.new a ha).2 z
  · rcases List.mem_append.mp hb with z | z
    · exact lv b z
    · exact s.al0.ex ex b z
theorem SA.setMtO {F H : Hp} {O0 O1 : List Addr} {ρ : List SD} {σ : Sg} {i : Nat} {m : Mt} {v : V} (s : SA F (m.fp ++ O0) O1 ρ σ H) (hF : ∀ b ∈ m.fp, F b = none ∧ b ∉ O1 ++ O0) (hP : m.P (msk (O1 ++ (m.fp ++ O0)) H) H v) (pl : plainAt ρ i = true) :
    ∃ O, SA F O0 O (ρ.set i (.mt m)) (σ.set i (some v)) H ∧ msk (O ++ O0) H = msk (O1 ++ (m.fp ++ O0)) H := by
  obtain ⟨as', h1, q⟩ := s.sl.setMt hP pl fun a ha z => (hF a ha).2 (List.mem_append_left _ z)
  have em : msk (as' ++ O0) H = msk (O1 ++ (m.fp ++ O0)) H := msk_congr (fun a => by
    rw [List.mem_append, List.mem_append, List.mem_append, q a]
    exact ⟨fun z => z.elim (fun z => z.elim (fun z => .inr (.inl z)) .inl) fun z => .inr (.inr z), fun z => z.elim (fun z => .inl (.inr z)) fun z => z.elim (fun z => .inl (.inl z)) .inr⟩) H
  rw [← em] at h1
  refine ⟨as', ⟨s.fr, h1, fun a ha => ?_, fun a ha => s.al0 a (List.mem_append_right _ ha)⟩, em⟩
  rcases (q a).mp ha with z | z
  · exact ⟨(hF a z).1, fun w => (hF a z).2 (List.mem_append_right _ w)⟩
  · exact ⟨(s.new a z).1, fun w => (s.new a z).2 (List.mem_append_right _ w)⟩
def tNw (ρ : List SD) (C : Addr) (D : Dsk) : TE := fun σ H Q => ∃ F O0 O1, SA F O0 O1 ρ σ H ∧
  ∀ x l u H', SA F ([x, l, u] ++ O0) O1 ρ σ H' → (∀ b ∈ [x, l, u], F b = none ∧ b ∉ O1 ++ O0) → (dskM C x l u D).P (msk (O1 ++ ([x, l, u] ++ O0)) H') H' (.ref x) → Ex (msk (O1 ++ O0) H) (msk (O1 ++ ([x, l, u] ++ O0)) H') → Q (.ref x) H'
abbrev EvW (X : Cx) (ρ : List SD) (e : Expr) (C : Addr) (D : Dsk) : Prop := PE X e (tNw ρ C D)
section
variable {X : Cx} {ρ : List SD} {P : Po} {rest : List Stmt} {C : Addr} {fn : Str} {p pos pos' : Pos} {e : Expr} {es : List Expr} {d : PyData} {k n : Nat} {c : Ct} {kws : List Keyword} {p1 p2 : Str}
theorem make_core {F H1 : Hp} {O0 O1 : List Addr} {σ : Sg} {vp : V} {a : c.A} {Q : VK} (s1 : SA F O0 O1 ρ σ H1) (hp : c.pre a) (he : c.enc a = [d]) (r : Rp (msk (O1 ++ O0) H1) vp d)
    (q : ∀ x l u H', SA F ([x, l, u] ++ O0) O1 ρ σ H' → (∀ b ∈ [x, l, u], F b = none ∧ b ∉ O1 ++ O0) → (dskM C x l u (newD d)).P (msk (O1 ++ ([x, l, u] ++ O0)) H') H' (.ref x) → Ex (msk (O1 ++ O0) H1) (msk (O1 ++ ([x, l, u] ++ O0)) H') → Q (.ref x) H')
    (x dx : Addr) (nx : H1 x = none) (ndx : H1 dx = none) (nd : dx ≠ x) {E : XK} : spI C c [.ref x, vp] (upd (upd H1 dx (.own x)) x (.ins C dx [])) (fun v H2 => v = .non ∧ Q (.ref x) H2) E := by
  have e0 : Ex H1 (upd (upd H1 dx (.own x)) x (.ins C dx [])) := fun b o h => by
    rw [upd_ne (ne_of_none h nx), upd_ne (ne_of_none h ndx)]; exact h
  have xO : x ∉ O1 ++ O0 := s1.al.out nx
  refine ⟨O1 ++ O0, x, dx, vp, d, a, rfl, he, hp, s1.al.ex e0, xO, upd_same, r.mono fun b o h => ?_, fun l u H' nl nu ex pk => ⟨rfl, ?_⟩⟩
  · obtain ⟨z1, z2⟩ := msk_some h
    rw [msk_out fun z => ?_]
    · exact e0 _ _ z2
    · rcases List.mem_append.mp z with z | z
      · rw [List.mem_singleton.mp z, nx] at z2; cases z2
      · exact z1 z
  · have e1 : Ex H1 H' := fun b o h => ex b o (by
      rw [msk_out fun z => ?_]
      · exact e0 b o h
      · rw [List.mem_singleton.mp z, nx] at h; cases h)
    have nw : ∀ b ∈ [x, l, u], H1 b = none := fun b hb => by
      simp only [List.mem_cons, List.not_mem_nil, or_false] at hb
      rcases hb with z | z | z <;> subst z
      · exact nx
      · cases y : H1 b with
        | none => rfl
        | some o => rw [e0 _ _ y] at nl; cases nl
      · cases y : H1 b with
        | none => rfl
        | some o => rw [e0 _ _ y] at nu; cases nu
    obtain ⟨s2, em, hF⟩ := s1.grow e1 nw fun b hb => Mt.al _ pk b hb
    have ec : msk ([x, l, u] ++ (O1 ++ O0)) H' = msk (O1 ++ ([x, l, u] ++ O0)) H' := msk_congr (fun b => by
      simp only [List.mem_append]
      exact ⟨fun z => z.elim (fun z => .inr (.inl z)) fun z => z.elim .inl fun z => .inr (.inr z), fun z => z.elim (fun z => .inr (.inl z)) fun z => z.elim .inl fun z => .inr (.inr z)⟩) H'
    exact q x l u H' s2 hF (by rw [← ec]; exact pk) em
theorem ew_make (M : MakI X.prog X.w X.K X.mg X.base k C fn [p1, p2] c) (a : c.A) (hr : Room n X.A) (hg : Gl X fn) (ha : Ev X ρ e d) (hp : c.pre a) (he : c.enc a = [d] := by rfl) (hkn : k + 1 ≤ n := by decide)
    (hdb : (fn == ("__debug__" : Str)) = false := by decide) (hst : starEach [e] X.env = (false, eval e X.env) :: starEach [] X.env := by rfl) (hpl : (backTo pos (starEach [] X.env)).any (·.1) = false := by rfl) : EvW X ρ (.Call (.Name fn p) [e] [] pos) C (newD d) := by
  obtain ⟨f, fd, F1, F2, F3, F4⟩ := M
  refine pe_imp (pe_make F2 F1 (hr.mono hkn) hg F3 F4.bd .nil pass0 (ea_cons ha ea_nil hst) hdb hst hpl) fun σ H Q ⟨F, O0, O1, s, q⟩ => ⟨F, O0, O1, s, fun vs ds H1 s1 e1 hd r1 => ?_⟩
  subst hd
  obtain ⟨vp, rfl, r⟩ := rpA1 r1
  exact fun x dx nx ndx nd => make_core s1 hp he r (fun x l u H' s' hF hP em => q x l u H' s' hF hP (e1.trans em)) x dx nx ndx nd
theorem ew_makeK {kn : Option Str} {kp : Pos} (M : MakI X.prog X.w X.K X.mg X.base k C fn [p1, p2] c) (a : c.A) (hr : Room n X.A) (hg : Gl X fn) (ha : Ev X ρ e d) (hp : c.pre a) (he : c.enc a = [d] := by rfl) (hkn : k + 1 ≤ n := by decide)
    (hall : (backToKw pos (keywordEach [⟨kn, e, kp⟩] X.env)).all (·.1.isSome) = true := by rfl) (hks : (backToKw pos (keywordEach [⟨kn, e, kp⟩] X.env)).filterMap (·.1) = [p2] := by rfl) (hdb : (fn == ("__debug__" : Str)) = false := by decide)
    (hpl : ((backTo pos (starEach [] X.env)).any (·.1) || (backToKw pos (keywordEach [⟨kn, e, kp⟩] X.env)).any (·.1.isNone)) = false := by rfl) : EvW X ρ (.Call (.Name fn p) [] [⟨kn, e, kp⟩] pos) C (newD d) := by
  obtain ⟨f, fd, F1, F2, F3, F4⟩ := M
  refine pe_imp (pe_makeK0 F2 F1 (hr.mono hkn) hg F3 F4.kbn pass0 (ek_c ha ek_nil) hall hks hdb hpl) fun σ H Q ⟨F, O0, O1, s, q⟩ => ⟨F, O0, O1, s, fun vs ds H1 s1 e1 hd r1 => ?_⟩
  subst hd
  obtain ⟨vp, rfl, r⟩ := rpA1 r1
  exact ⟨rfl, rfl, fun x dx nx ndx nd => make_core s1 hp he r (fun x l u H' s' hF hP em => q x l u H' s' hF hP (e1.trans em)) x dx nx ndx nd⟩
/-- name = Desk(..) -/
theorem hs_setW {x0 : Str} {i : Nat} {D : Dsk} (hN : X.N.Nodup) (hi : X.N[i]? = some x0) (hx : Loc X.env.scope x0) (hp : plainAt ρ i = true) (he : EvW X ρ e C D) (kk : ∀ x l u, HSs X rest (ρ.set i (.mt (dskM C x l u D))) P) (hs : swapsWith e (some (.Name x0 pos')) pos.line X.env = pure false := by rfl)
    (hf : X.fn x0 = true ∨ X.env.scope.names.lookup x0 = some .local := by first | exact .inl rfl | exact .inr rfl | assumption) : HSs X (.Assign [.Name x0 pos'] e pos :: rest) ρ P :=
  hs_cons (M := fun r => ∃ x l u, r = ρ.set i (.mt (dskM C x l u D))) (ps_imp (ps_set hN hi hx he hs hf) fun Dn σ H ⟨F, O0, O1, s, a, b, k, t⟩ => ⟨F, O0, O1, s, fun x l u H' s' hF hP em => by
    obtain ⟨O, s2, _⟩ := SA.setMtO (m := dskM C x l u D) s' hF hP hp
    exact a _ O _ H' ⟨x, l, u, rfl⟩ s2⟩) fun r ⟨x, l, u, z⟩ => by subst z; exact kk x l u
/-- the places of a new thing are known to all that follows -/
theorem SA.pin {F H : Hp} {O0 O1 : List Addr} {σ : Sg} {x l u : Addr} {D : Dsk} (s : SA F ([x, l, u] ++ O0) O1 ρ σ H) (hF : ∀ b ∈ [x, l, u], F b = none ∧ b ∉ O1 ++ O0) (hP : (dskM C x l u D).P (msk (O1 ++ ([x, l, u] ++ O0)) H) H (.ref x)) :
    ∃ F', SA F' ([x, l, u] ++ O0) O1 ρ σ H ∧ ∀ H', SA F' ([x, l, u] ++ O0) O1 ρ σ H' → Ex (msk (O1 ++ ([x, l, u] ++ O0)) H) (msk (O1 ++ ([x, l, u] ++ O0)) H') → SA F ([x, l, u] ++ O0) O1 ρ σ H' ∧ (dskM C x l u D).P (msk (O1 ++ ([x, l, u] ++ O0)) H') H' (.ref x) ∧ (∀ b o, F' b = some o → H' b = some o) ∧ F' x ≠ none := by
  obtain ⟨h1, h2, h3, h4, dx, vp, vs, xs, ys, a, b, c1, d1, e1, f, g⟩ := hP
  have nlx : l ≠ x := fun z => by rw [z, a] at b; cases b
  have nux : u ≠ x := fun z => by rw [z, a] at c1; cases c1
  have xF := hF x (by simp)
  have lF := hF l (by simp)
  have uF := hF u (by simp)
  have key : ∀ z o, upd (upd (upd F x (.ins C dx (dF vp vs l u))) l (.lst xs)) u (.lst ys) z = some o → (z = u ∧ o = .lst ys) ∨ (z = l ∧ o = .lst xs) ∨ (z = x ∧ o = .ins C dx (dF vp vs l u)) ∨ F z = some o := fun z o h => by
    by_cases c : z = u
    · subst c; rw [upd_same] at h; exact .inl ⟨rfl, (Option.some.inj h).symm⟩
    · rw [upd_ne c] at h
      by_cases c2 : z = l
      · subst c2; rw [upd_same] at h; exact .inr (.inl ⟨rfl, (Option.some.inj h).symm⟩)
      · rw [upd_ne c2] at h
        by_cases c3 : z = x
        · subst c3; rw [upd_same] at h; exact .inr (.inr (.inl ⟨rfl, (Option.some.inj h).symm⟩))
        · rw [upd_ne c3] at h; exact .inr (.inr (.inr h))
  refine ⟨upd (upd (upd F x (.ins C dx (dF vp vs l u))) l (.lst xs)) u (.lst ys), ⟨fun z o h => ?_, s.sl, fun z hz => ⟨?_, (s.new z hz).2⟩, s.al0⟩, fun H' s' em => ⟨⟨fun z o h => s'.fr z o ?_, s'.sl, fun z hz => s.new z hz, s'.al0⟩, ⟨h1, h2, h3, h4, dx, vp, vs, xs, ys, s'.fr _ _ (by rw [upd_ne (Ne.symm nux), upd_ne (Ne.symm nlx), upd_same]), s'.fr _ _ (by rw [upd_ne h2, upd_same]), s'.fr _ _ upd_same, d1.mono em, e1.mono em, f.mono em, g.mono em⟩, s'.fr, ?_⟩⟩
  · rcases key z o h with ⟨q, w⟩ | ⟨q, w⟩ | ⟨q, w⟩ | q
    · rw [q, w]; exact c1
    · rw [q, w]; exact b
    · rw [q, w]; exact a
    · exact s.fr z o q
  · rw [upd_ne fun q => uF.2 (by rw [← q]; exact List.mem_append_left _ hz), upd_ne fun q => lF.2 (by rw [← q]; exact List.mem_append_left _ hz), upd_ne fun q => xF.2 (by rw [← q]; exact List.mem_append_left _ hz)]
    exact (s.new z hz).1
  · have zu : z ≠ u := fun q => by rw [q, uF.1] at h; cases h
    have zl : z ≠ l := fun q => by rw [q, lF.1] at h; cases h
    have zx : z ≠ x := fun q => by rw [q, xF.1] at h; cases h
    rw [upd_ne zu, upd_ne zl, upd_ne zx]
    exact h
  · rw [upd_ne (Ne.symm nux), upd_ne (Ne.symm nlx), upd_same]
    exact fun z => nomatch z
/-- a, b = Desk(..), e (not both plain locals) -/
theorem hs_asgW {x1 x2 : Str} {i j : Nat} {D : Dsk} {e2 : Expr} {q1 q2 tp vp : Pos} {kt k2 : Nat} (hc : X.calm = true) (hN : X.N.Nodup) (hi : X.N[i]? = some x1) (hx : Loc X.env.scope x1) (hj : X.N[j]? = some x2) (hy : Loc X.env.scope x2) (pi : plainAt ρ i = true) (pj : plainAt (ρ.set i .un) j = true) (hij : i ≠ j) (he : EvW X ρ e C D) (he2 : Ev X ρ e2 d)
    (kk : ∀ x l u, HSs X rest ((ρ.set i (.mt (dskM C x l u D))).set j (.dat d)) P) (hs : swapsWithSole [.Tuple [.Name x1 q1, .Name x2 q2] kt tp] (.Tuple [e, e2] k2 vp) pos.line X.env = pure false := by rfl) (hw : swappedStores [.Tuple [.Name x1 q1, .Name x2 q2] kt tp] (.Tuple [e, e2] k2 vp) X.env = pure none := by rfl)
    (h1 : (assignEach [.Tuple [.Name x1 q1, .Name x2 q2] kt tp] X.env).map (·.2) = [assign (.Tuple [.Name x1 q1, .Name x2 q2] kt tp) X.env] := by rfl)
    (hf : X.fn x1 = true ∨ X.env.scope.names.lookup x1 = some .local := by first | exact .inl rfl | exact .inr rfl | assumption) (hf2 : X.fn x2 = true ∨ X.env.scope.names.lookup x2 = some .local := by first | exact .inl rfl | exact .inr rfl | assumption)
    (g1 : (assignEach [.Name x1 q1, .Name x2 q2] X.env).map (·.2) = assign (.Name x1 q1) X.env :: (assignEach [.Name x2 q2] X.env).map (·.2) := by rfl) (g2 : (assignEach [.Name x2 q2] X.env).map (·.2) = assign (.Name x2 q2) X.env :: (assignEach [] X.env).map (·.2) := by rfl)
    (g3 : (assignEach [.Name x1 q1, .Name x2 q2] X.env).length = 2 := by rfl) (g4 : (assignEach [.Name x1 q1, .Name x2 q2] X.env).findIdx? (·.1) = none := by rfl)
    (t1 : starEach [e, e2] X.env = (false, eval e X.env) :: starEach [e2] X.env := by rfl) (t2 : starEach [e2] X.env = (false, eval e2 X.env) :: starEach [] X.env := by rfl) :
    HSs X (.Assign [.Tuple [.Name x1 q1, .Name x2 q2] kt tp] (.Tuple [e, e2] k2 vp) pos :: rest) ρ P :=
  hs_cons (M := fun r => ∃ x l u, r = (ρ.set i (.mt (dskM C x l u D))).set j (.dat d)) (ps_imp (ps_asg (pe_tup (pa_cons he (ea_cons he2 ea_nil t2) t1)) (pg_tup hc (pgs_cons (pg_name hN hi hx hf) (pgs_cons (pg_name hN hj hy hf2) pgs_nil g2) g1) g3 g4) hs hw h1) fun Dn σ H ⟨F, O0, O1, s, a, b, k, t⟩ => ⟨F, O0, O1, s, fun x l u H1 s1 hF hP em => by
    obtain ⟨F', s1', back⟩ := s1.pin hF hP
    refine ⟨F', _, O1, s1', fun vs ds H2 s2 e2 hd r2 => ?_⟩
    subst hd
    obtain ⟨v, rfl, r⟩ := rpA1 r2
    refine ⟨by show 2 ≤ sizeLine; decide, fun T hT => ?_⟩
    have s3 := s2.ex (Ex.new (o := .tup [.ref x, v]) hT)
    have em3 : Ex (msk (O1 ++ ([x, l, u] ++ O0)) H2) (msk (O1 ++ ([x, l, u] ++ O0)) (upd H2 T (.tup [.ref x, v]))) := (Ex.new hT).msk
    obtain ⟨s4, hP4, _⟩ := back _ s3 (e2.trans em3)
    refine ⟨T, _, rfl, SqT.of upd_same, rfl, .ref x, [v], rfl, v, [], rfl, rfl, ?_⟩
    obtain ⟨O, s5, es⟩ := SA.setMtO (m := dskM C x l u D) (i := i) s4 hF hP4 pi
    have pj' : plainAt (ρ.set i (.mt (dskM C x l u D))) j = true := by
      unfold plainAt at pj ⊢
      rw [List.getElem?_set_ne hij] at pj ⊢
      exact pj
    have s6 := s5.set (i := j) (v := v) (d := d) pj' (by rw [es]; exact r.mono em3)
    exact a _ O _ _ ⟨x, l, u, rfl⟩ s6⟩) fun r ⟨x, l, u, z⟩ => by subst z; exact kk x l u
/-- Desk(..) that raises -/
theorem ex_make {cl : Ek → Addr} {E : XK} {q0 : Ek} {cx : CtX} (M : MakX X.prog X.w X.K X.mg X.base k C fn [p1, p2] cl cx) (a : cx.A) (hr : Room n X.A) (px : Passes (L2.CX X.prog X.w) X E) (hg : Gl X fn) (ha : EvA X ρ [e] (cx.enc a)) (hp : cx.pre a) (hq : cx.kind a = q0 := by rfl) (hkn : k + 1 ≤ n := by decide)
    (hdb : (fn == ("__debug__" : Str)) = false := by decide) (hst : starEach [e] X.env = (false, eval e X.env) :: starEach [] X.env := by rfl) (hpl : (backTo pos (starEach [] X.env)).any (·.1) = false := by rfl) : EvX X cl ρ (.Call (.Name fn p) [e] [] pos) (.err q0) E := by
  subst hq
  obtain ⟨f, fd, F1, F2, F3, F4⟩ := M
  refine pe_imp (pe_make F2 F1 (hr.mono hkn) hg F3 F4.bd .nil px ha hdb hst hpl) fun σ H Q ⟨F, O0, O1, s, q⟩ => ⟨F, O0, O1, s, fun vs ds H1 s1 e1 hd r1 => ?_⟩
  subst hd
  intro x dx nx ndx nd
  have e0 : Ex H1 (upd (upd H1 dx (.own x)) x (.ins C dx [])) := fun b o h => by
    rw [upd_ne (ne_of_none h nx), upd_ne (ne_of_none h ndx)]; exact h
  exact ⟨O1 ++ O0, a, .ref x, vs ++ [], rfl, hp, s1.al.ex e0, by rw [List.append_nil]; exact r1.mono e0.msk, fun H' e' => q H' (s1.ex (e0.trans e')) (e1.trans (e0.trans e').msk)⟩
end
section
variable {P : Program} {w : World} {K : PySem.W.Frag} {mg : Str → Option Value} {base : Heap} {C : Addr}
theorem spIX_mk {m qual : Str} {st : Stmt} {f : Addr} {fd : FuncData} {N ps : List Str} {k : Nat} {cl : Ek → Addr} {c : CtX} (Fn : Fun K m qual st f fd) (S : FnScope N ps (defScope st)) (hl : ∀ a, (c.enc a).length + 1 = ps.length)
    (body : ∀ a, c.pre a → ∀ (cdv : Value) (A : Around) (outer : List Env) (s : Shared) (H : Hp) (E : XK), Room k (A.deeper (envOfC qual (defScope st) s.heap.objs.size f cdv)) →
      Takes (cxOf (L2.CX P w) P w K mg base N qual (defScope st) f cdv A outer s H E) (fun cls d _ H => E cls d H) → Passes (L2.CX P w) (cxOf (L2.CX P w) P w K mg base N qual (defScope st) f cdv A outer s H E) E →
      HEs (cxOf (L2.CX P w) P w K mg base N qual (defScope st) f cdv A outer s H E) cl (defBody st) (.un :: ((c.enc a).map SD.dat ++ List.replicate (N.length - ((c.enc a).length + 1)) SD.un)) { nx := fun _ => False, rt := fun _ _ => False } (fun q => q = c.kind a) E) :
    FnOk P w K mg base (L2.CX P w) (k + 1) f fd ps (spIX cl c) := by
  refine Fn.okX S (fun vs H Q E ⟨O, a, v0, us, e, _, _, r, _⟩ => by rw [e, List.length_cons, r.len]; exact hl a) (fun cdv A outer s H vs Q E hr ⟨O, a, v0, us, e, hp, al, ra, kt⟩ => ?_)
  have tk : Takes (cxOf (L2.CX P w) P w K mg base N qual (defScope st) f cdv A outer s H E) (fun cls d _ H => E cls d H) := takes_of rfl rfl rfl rfl
  refine ⟨_, body a hp cdv A outer s H E hr tk (passes_call tk fun _ _ _ _ h => h), H, O, [], ⟨Ex.refl _, ?_, fun a ha => (by cases ha), al⟩, fun _ _ _ _ z => z.elim, fun _ _ _ _ _ _ z => z.elim, fun _ _ _ _ z => z.elim, fun _ _ _ _ z => z.elim, ?_⟩
  · rw [e]
    unfold L2.start
    have hst : N.length - (v0 :: us).length = N.length - ((c.enc a).length + 1) := by rw [List.length_cons, ra.len]
    rw [hst]
    exact .un (Sl.start (n := N.length - ((c.enc a).length + 1)) ra)
  · intro q ρ' O1' σ' H' e s'
    subst e
    exact kt H' s'.fr
end
end PL

namespace PL
open PySem PySem.Spec PyProof.Rows L2
/-! ## len and str of a desk; texts -/
theorem call_lenO {X : Cx} {C f : Addr} {fd : FuncData} {ps : List Str} {k : Nat} {sp : Sp} (hm : Meth X.K C "__len__" f) (F : FnOk X.prog X.w X.K X.mg X.base CX0 k f fd ps sp) (hr : Room (k + 1) X.A) (hb : Binds X.K fd ps []) :
    CallR X (.builtin "len") (fun xs H Q => ∃ a dx fs, xs = [.ref a] ∧ H a = some (.ins C dx fs) ∧ sp [.ref a] H (fun v H2 => ∃ n : Int, v = .int n ∧ 0 ≤ n ∧ n < 2 ^ 63 ∧ Q (.int n) H2) E0) := by
  intro pins s σ H xs us Q I r ⟨a, dx, fs, e, ha, h⟩
  subst e
  cases r with
  | cons rx rr =>
    cases rr
    cases rx
    obtain ⟨mA, J, _⟩ := ins_get I.hok ha
    obtain ⟨od, J, _⟩ := J.look
    obtain ⟨m, hF⟩ := I.fr
    refine PySem.W.len_K hF I.ok.mod.kin J hm.at_ hm.fn ?_
    have hl := F.len _ _ _ _ h
    have r2 : Vals [V.ref a] [Value.ref a] := .cons rfl .nil
    refine wpAny_call (codeAny_mono (F.run X.A.in1 X.stack s H ⟨[.ref a], []⟩ [.ref a] [.ref a] _ E0 hr.in1 I.env0.in1 (by
      have := hb s [.ref a] I.kIn (by simpa using hl)
      simpa using this) r2 h) fun r s' hq => ?_)
    cases r with
    | error e => exact (show False from hq).elim
    | ok fl =>
      cases fl with
      | ret w =>
        obtain ⟨z, H', I', rz, n, ez, n0, n1, q⟩ := I.after hq
        subst ez
        obtain ⟨t, rfl⟩ := rz
        exact ⟨⟨n0, n1⟩, .int n, H', I'.tok _, ⟨_, rfl⟩, q⟩
      | next => exact False.elim hq
      | brk => exact False.elim hq
      | cont => exact False.elim hq
theorem call_strO {X : Cx} {C f : Addr} {fd : FuncData} {ps : List Str} {k : Nat} {sp : Sp} (hm : Meth X.K C "__str__" f) (F : FnOk X.prog X.w X.K X.mg X.base CX0 k f fd ps sp) (hr : Room (k + 2) X.A) (hb : Binds X.K fd ps []) :
    CallR X (.type "str") (fun xs H Q => ∃ a dx fs, xs = [.ref a] ∧ H a = some (.ins C dx fs) ∧ sp [.ref a] H (fun v H2 => ∃ y : Str, v = .str y ∧ Q (.str y) H2) E0) := by
  intro pins s σ H xs us Q I r ⟨a, dx, fs, e, ha, h⟩
  subst e
  cases r with
  | cons rx rr =>
    cases rr
    cases rx
    obtain ⟨mA, J, _⟩ := ins_get I.hok ha
    obtain ⟨od, J, _⟩ := J.look
    have hr2 : Room k X.A.in1.in1 := (Room.in1 (k := k + 1) hr).in1
    refine PySem.W.kso_call hr2.units0 I.kIn J hm.at_ hm.fn ?_
    have hl := F.len _ _ _ _ h
    have r2 : Vals [V.ref a] [Value.ref a] := .cons rfl .nil
    refine wpAny_call (codeAny_mono (F.run X.A.in1.in1 X.stack s H ⟨[.ref a], []⟩ [.ref a] [.ref a] _ E0 hr2 I.env0.in1.in1 (by
      have := hb s [.ref a] I.kIn (by simpa using hl)
      simpa using this) r2 h) fun r s' hq => ?_)
    cases r with
    | error e => exact (show False from hq).elim
    | ok fl =>
      cases fl with
      | ret w =>
        obtain ⟨z, H', I', rz, y, ez, q⟩ := I.after hq
        subst ez
        obtain ⟨t, rfl⟩ := rz
        exact ⟨.str y, H', I', ⟨_, rfl⟩, q⟩
      | next => exact False.elim hq
      | brk => exact False.elim hq
      | cont => exact False.elim hq
section
variable {X : Cx} {ρ : List SD} {C x l u : Addr} {y fn : Str} {p p1 pos : Pos} {k n : Nat} {ps : List Str} {D : Dsk}
theorem ev_lenDR {c : CtR} {z : Int} (F : MetR X.prog X.w X.K X.mg X.base k C "__len__" ps c) (i : Nat) (a : c.A) (hr : Room n X.A) (hg : Gl X "len") (hm : X.mg "len" = none) (hp : c.pre a) (hz : c.res a = .int z) (h0 : 0 ≤ z) (h63 : z < 2 ^ 63) (hE : c.enc a = [] := by rfl) (hs : ρ[i]? = some (.mt (dskR C (c.st a))) := by rfl) (hkn : k + 1 ≤ n := by decide)
    (hi : X.N[i]? = some y := by rfl) (hv : Vis X.env.scope y := by first | exact Or.inl rfl | exact Or.inr (Or.inl rfl) | exact Or.inr (Or.inr rfl)) (h1 : (y == ("__debug__" : Str)) = false := by decide) (h2 : (y == ("__classdict__" : Str)) = false := by decide)
    (he : starEach [.Name y p1] X.env = (false, eval (.Name y p1) X.env) :: starEach [] X.env := by rfl) (hpl : (backTo pos (starEach [] X.env)).any (·.1) = false := by rfl) : Ev X ρ (.Call (.Name "len" p) [.Name y p1] [] pos) (.int z) := by
  obtain ⟨f, fd, F1, F2, F3⟩ := F
  refine pe_imp (pe_callB (call_lenO F2 F1 (hr.mono hkn) F3.bd) hg hm PySem.boot_len (pa_cons (pe_var hi hv h1 h2) pa_nil he) (by decide) (by decide) he hpl) fun σ H Q ⟨F, O0, O1, s, q⟩ => ?_
  obtain ⟨v0, g1, dk, _⟩ := s.getM hs
  obtain ⟨x, l, u, _, _, dx, vp, vs, xs, ys, e1, hx, _⟩ := id dk
  subst e1
  refine ⟨_, g1, x, dx, _, rfl, (msk_some hx).2, O1 ++ O0, a, .ref x, [], rfl, hp, s.al, dk, by rw [hE]; exact .nil, fun v H' e' r => ?_⟩
  rw [hz] at r
  cases r
  exact ⟨z, rfl, h0, h63, q _ _ H' (s.ex e') e'.msk rfl (.int z)⟩
theorem ev_lenDM {c : CtR} {z : Int} (F : MetR X.prog X.w X.K X.mg X.base k C "__len__" ps c) (i : Nat) (a : c.A) (hr : Room n X.A) (hg : Gl X "len") (hm : X.mg "len" = none) (hp : c.pre a) (hz : c.res a = .int z) (h0 : 0 ≤ z) (h63 : z < 2 ^ 63) (hE : c.enc a = [] := by rfl) (hs : ρ[i]? = some (.mt (dskM C x l u (c.st a))) := by rfl) (hkn : k + 1 ≤ n := by decide)
    (hi : X.N[i]? = some y := by rfl) (hv : Vis X.env.scope y := by first | exact Or.inl rfl | exact Or.inr (Or.inl rfl) | exact Or.inr (Or.inr rfl)) (h1 : (y == ("__debug__" : Str)) = false := by decide) (h2 : (y == ("__classdict__" : Str)) = false := by decide)
    (he : starEach [.Name y p1] X.env = (false, eval (.Name y p1) X.env) :: starEach [] X.env := by rfl) (hpl : (backTo pos (starEach [] X.env)).any (·.1) = false := by rfl) : Ev X ρ (.Call (.Name "len" p) [.Name y p1] [] pos) (.int z) := by
  obtain ⟨f, fd, F1, F2, F3⟩ := F
  refine pe_imp (pe_callB (call_lenO F2 F1 (hr.mono hkn) F3.bd) hg hm PySem.boot_len (pa_cons (pe_var hi hv h1 h2) pa_nil he) (by decide) (by decide) he hpl) fun σ H Q ⟨F, O0, O1, s, q⟩ => ?_
  obtain ⟨O, al, dk, ex, g1, ⟨dx, vp, vs, hx⟩, back⟩ := s.lend hs
  refine ⟨_, g1, x, dx, _, rfl, hx, O, a, .ref x, [], rfl, hp, al, dk, by rw [hE]; exact .nil, fun v H' e' r => ?_⟩
  rw [hz] at r
  cases r
  exact ⟨z, rfl, h0, h63, q _ _ H' (s.ex e') e'.msk rfl (.int z)⟩
theorem ev_strDR {c : CtR} {z : Str} (F : MetR X.prog X.w X.K X.mg X.base k C "__str__" ps c) (i : Nat) (a : c.A) (hr : Room n X.A) (hg : Gl X "str") (hm : X.mg "str" = none) (hp : c.pre a) (hz : c.res a = .str z) (hl : z.length ≤ big) (hE : c.enc a = [] := by rfl) (hs : ρ[i]? = some (.mt (dskR C (c.st a))) := by rfl) (hkn : k + 2 ≤ n := by decide)
    (hi : X.N[i]? = some y := by rfl) (hv : Vis X.env.scope y := by first | exact Or.inl rfl | exact Or.inr (Or.inl rfl) | exact Or.inr (Or.inr rfl)) (h1 : (y == ("__debug__" : Str)) = false := by decide) (h2 : (y == ("__classdict__" : Str)) = false := by decide)
    (he : starEach [.Name y p1] X.env = (false, eval (.Name y p1) X.env) :: starEach [] X.env := by rfl) (hpl : (backTo pos (starEach [] X.env)).any (·.1) = false := by rfl) : Ev X ρ (.Call (.Name "str" p) [.Name y p1] [] pos) (.str z) := by
  obtain ⟨f, fd, F1, F2, F3⟩ := F
  refine pe_imp (pe_callTy (call_strO F2 F1 (hr.mono hkn) F3.bd) hg hm (by decide +kernel) (pa_cons (pe_var hi hv h1 h2) pa_nil he) (by decide) (by decide) he hpl) fun σ H Q ⟨F, O0, O1, s, q⟩ => ?_
  obtain ⟨v0, g1, dk, _⟩ := s.getM hs
  obtain ⟨x, l, u, _, _, dx, vp, vs, xs, ys, e1, hx, _⟩ := id dk
  subst e1
  refine ⟨_, g1, x, dx, _, rfl, (msk_some hx).2, O1 ++ O0, a, .ref x, [], rfl, hp, s.al, dk, by rw [hE]; exact .nil, fun v H' e' r => ?_⟩
  rw [hz] at r
  cases r
  exact ⟨z, rfl, q _ _ H' (s.ex e') e'.msk rfl (.str z hl)⟩
end
/-! what __init__ writes -/
theorem putF1 (vp : V) : putF "plan" vp [] = ([("plan", vp)] : List (Str × V)) := rfl
theorem putF2 (vp vs : V) : putF "some" vs (putF "plan" vp []) = ([("plan", vp), ("some", vs)] : List (Str × V)) := by
  rw [putF1]
  show (if ("plan" : Str) = "some" then _ else (("plan" : Str), vp) :: putF "some" vs []) = _
  rw [if_neg fun e => neS n_sp e.symm]; rfl
theorem putF3 (vp vs vl : V) : putF "done" vl (putF "some" vs (putF "plan" vp [])) = ([("plan", vp), ("some", vs), ("done", vl)] : List (Str × V)) := by
  rw [putF2]
  show (if ("plan" : Str) = "done" then _ else (("plan" : Str), vp) :: (if ("some" : Str) = "done" then _ else (("some" : Str), vs) :: putF "done" vl [])) = _
  rw [if_neg fun e => neS n_dp e.symm, if_neg fun e => neS n_ds e.symm]; rfl
theorem putF4 (vp vs : V) (l u : Addr) : putF "undone" (.ref u) (putF "done" (.ref l) (putF "some" vs (putF "plan" vp []))) = dF vp vs l u := by
  rw [putF3]
  show (if ("plan" : Str) = "undone" then _ else (("plan" : Str), vp) :: (if ("some" : Str) = "undone" then _ else (("some" : Str), vs) :: (if ("done" : Str) = "undone" then _ else (("done" : Str), V.ref l) :: putF "undone" (.ref u) []))) = _
  rw [if_neg fun e => neS n_up e.symm, if_neg fun e => neS n_us e.symm, if_neg fun e => neS n_ud e.symm]; rfl
theorem ini_end {C x dx pt l u : Addr} {vp : V} {d : PyData} {O0 : List Addr} {H H1 : Hp} {f1 f2 f3 : List (Str × V)} (hx : H x = some (.ins C dx [])) (x0 : x ∉ O0) (rv : Rp (msk ([x] ++ O0) H) vp d) (al : Al O0 H) (e1 : Ex H H1)
    (hpt : upd H1 x (.ins C dx f1) pt = none) (hl : upd (upd (upd H1 x (.ins C dx f1)) pt (.tup [])) x (.ins C dx f2) l = none) (hu : upd (upd (upd (upd (upd H1 x (.ins C dx f1)) pt (.tup [])) x (.ins C dx f2)) l (.lst [])) x (.ins C dx f3) u = none) :
    H l = none ∧ H u = none ∧ Ex (msk [x] H) (upd (upd (upd (upd (upd (upd (upd H1 x (.ins C dx f1)) pt (.tup [])) x (.ins C dx f2)) l (.lst [])) x (.ins C dx f3)) u (.lst [])) x (.ins C dx (dF vp (.ref pt) l u))) ∧
      (dskM C x l u (newD d)).P (msk ([x, l, u] ++ O0) (upd (upd (upd (upd (upd (upd (upd H1 x (.ins C dx f1)) pt (.tup [])) x (.ins C dx f2)) l (.lst [])) x (.ins C dx f3)) u (.lst [])) x (.ins C dx (dF vp (.ref pt) l u)))) (upd (upd (upd (upd (upd (upd (upd H1 x (.ins C dx f1)) pt (.tup [])) x (.ins C dx f2)) l (.lst [])) x (.ins C dx f3)) u (.lst [])) x (.ins C dx (dF vp (.ref pt) l u))) (.ref x) := by
  have npx : pt ≠ x := fun z => by rw [z, upd_same] at hpt; cases hpt
  have nlx : l ≠ x := fun z => by rw [z, upd_same] at hl; cases hl
  have nux : u ≠ x := fun z => by rw [z, upd_same] at hu; cases hu
  rw [upd_ne npx] at hpt
  have nlp : l ≠ pt := fun z => by rw [z, upd_ne npx, upd_same] at hl; cases hl
  rw [upd_ne nlx, upd_ne nlp, upd_ne nlx] at hl
  have nul : u ≠ l := fun z => by rw [z, upd_ne nlx, upd_same] at hu; cases hu
  have nup : u ≠ pt := fun z => by rw [z, upd_ne npx, upd_ne (Ne.symm nlp), upd_ne npx, upd_same] at hu; cases hu
  rw [upd_ne nux, upd_ne nul, upd_ne nux, upd_ne nup, upd_ne nux] at hu
  have nn : ∀ {z : Addr}, H1 z = none → H z = none := fun {z} h => by
    cases y : H z with
    | none => rfl
    | some o => rw [e1 _ _ y] at h; cases h
  have far : ∀ {z : Addr} {o : HO}, H z = some o → z ≠ x → upd (upd (upd (upd (upd (upd (upd H1 x (.ins C dx f1)) pt (.tup [])) x (.ins C dx f2)) l (.lst [])) x (.ins C dx f3)) u (.lst [])) x (.ins C dx (dF vp (.ref pt) l u)) z = some o := fun {z o} h n => by
    have h1 := e1 _ _ h
    rw [upd_ne n, upd_ne (ne_of_none h1 hu), upd_ne n, upd_ne (ne_of_none h1 hl), upd_ne n, upd_ne (ne_of_none h1 hpt), upd_ne n]
    exact h1
  refine ⟨nn hl, nn hu, fun z o h => ?_, ?_⟩
  · obtain ⟨z1, z2⟩ := msk_some h
    exact far z2 fun q => z1 (by rw [q]; simp)
  · have ptO : pt ∉ [x, l, u] ++ O0 := fun z => by
      rcases List.mem_append.mp z with z | z
      · simp only [List.mem_cons, List.not_mem_nil, or_false] at z
        rcases z with z | z | z
        · exact npx z
        · exact nlp z.symm
        · exact nup z.symm
      · exact al pt z (nn hpt)
    refine ⟨rfl, fun z => nul z.symm, Nat.zero_le _, Nat.zero_le _, dx, vp, .ref pt, [], [], upd_same, by rw [upd_ne nlx, upd_ne (fun z => nul z.symm), upd_ne nlx, upd_same], by rw [upd_ne nux, upd_same], .nil, .nil, rv.mono fun z o h => ?_, ?_⟩
    · obtain ⟨z1, z2⟩ := msk_some h
      have zx : z ≠ x := fun q => z1 (by rw [q]; simp)
      rw [msk_out fun w => ?_]
      · exact far z2 zx
      · rcases List.mem_append.mp w with w | w
        · simp only [List.mem_cons, List.not_mem_nil, or_false] at w
          rcases w with w | w | w
          · exact zx w
          · rw [w, nn hl] at z2; cases z2
          · rw [w, nn hu] at z2; cases z2
        · exact z1 (List.mem_append_right _ w)
    · refine .tup (xs := []) ?_ (Nat.zero_le _) .nil
      rw [msk_out ptO, upd_ne npx, upd_ne (Ne.symm nup), upd_ne npx, upd_ne (Ne.symm nlp), upd_ne npx, upd_same]
/-- the __init__ of the text -/
structure IniAt (K : PySem.W.Frag) (mg : Str → Option Value) (C : Addr) (x qual : Str) (st : Stmt) (ps : List Str) (f : Addr) (fd : FuncData) : Prop where
  fn : Fun K "__init__" qual st f fd
  mk_ : Mk K C f
  at_ : mg x = some (.ref C)
  kw : Kw fd ps
/-- name = e, among statements that raise -/
theorem he_set {X : Cx} {cl : Ek → Addr} {ρ : List SD} {P : Po} {R : Ek → Prop} {E : XK} {rest : List Stmt} {e : Expr} {d : PyData} {x : Str} {i : Nat} {pos pos' : Pos} (hN : X.N.Nodup) (hi : X.N[i]? = some x) (hx : Loc X.env.scope x) (hp : plainAt ρ i = true) (he : Ev X ρ e d) (kk : HEs X cl rest (ρ.set i (.dat d)) P R E) (hs : swapsWith e (some (.Name x pos')) pos.line X.env = pure false := by rfl)
    (hf : X.fn x = true ∨ X.env.scope.names.lookup x = some .local := by first | exact .inl rfl | exact .inr rfl | assumption) : HEs X cl (.Assign [.Name x pos'] e pos :: rest) ρ P R E :=
  he_cons (M := fun r => r = ρ.set i (.dat d)) (ps_imp (ps_set hN hi hx he hs hf) fun Dn σ H ⟨F, O0, O1, s, a, b, k, t, u⟩ => ⟨F, O0, O1, s, fun v d' H' s' e' hd r => by
    subst hd
    exact a _ O1 _ H' rfl (s'.set hp r)⟩) fun r z => by subst z; exact kk
/-! texts -/
def txt (i : Int) : Str := Str.ofString (toString i)
section
variable {X : Cx} {ρ : List SD} {a b e : Expr} {es : List Expr} {p pos : Pos} {d : PyData}
theorem ev_strI {i : Int} (hg : Gl X "str") (hm : X.mg "str" = none) (ha : Ev X ρ a (.int i)) (hb : i.natAbs.log2 < 1920) (hl : (txt i).length ≤ big) (he : starEach [a] X.env = (false, eval a X.env) :: starEach [] X.env := by rfl) (hpl : (backTo pos (starEach [] X.env)).any (·.1) = false := by rfl) : Ev X ρ (.Call (.Name "str" p) [a] [] pos) (.str (txt i)) :=
  ev_callTy call_str_int hg hm (by decide +kernel) (ea_cons ha ea_nil he) (fun O H xs Q al r k => by
    obtain ⟨v, rfl, r1⟩ := rpA1 r
    cases r1
    exact ⟨i, rfl, hb, k.here rfl (.str _ hl)⟩) (by decide) (by decide) he hpl
theorem ev_catS {s t : Str} (ha : Ev X ρ a (.str s)) (hb : Ev X ρ b (.str t)) (hl : (s ++ t).length ≤ big) : Ev X ρ (.BinOp a .Add b pos) (.str (s ++ t)) :=
  ev_bin op_add_str ha hb fun O H x y Q al hx hy k => by
    cases hx; cases hy
    exact ⟨s, t, rfl, rfl, le_line (by rw [← Str.length_append]; exact hl), k.here rfl (.str _ hl)⟩
theorem ev_fmtI {i : Int} (ha : Ev X ρ a (.int i)) (hb : i.natAbs.log2 < 1920) (hl : (txt i).length ≤ big) : Ev X ρ (.FormattedValue a (-1) none pos) (.str (txt i)) :=
  pe_imp (pe_fmt ha) fun σ H Q ⟨F, O0, O1, s, q⟩ => ⟨F, O0, O1, s, fun v d H' s' e' hd r => by
    subst hd; cases r
    exact .inr ⟨i, rfl, hb, q _ _ H' s' e' rfl (.str _ hl)⟩⟩
inductive EvJs (X : Cx) (ρ : List SD) : List Expr → List Str → Prop where
  | nil : EvJs X ρ [] []
  | cons {e : Expr} {es : List Expr} {s : Str} {ss : List Str} (h : Ev X ρ e (.str s)) (r : EvJs X ρ es ss) : EvJs X ρ (e :: es) (s :: ss)
theorem EvJs.pj {ss : List Str} (h : EvJs X ρ es ss) : PJ X es (ss.map fun s => tP ρ (Eq (.str s))) := by
  induction h with
  | nil => exact .nil
  | cons h _ ih => exact .cons h ih
theorem fold_le : ∀ (ss : List Str) (acc : Str), acc.length ≤ (ss.foldl (· ++ ·) acc).length
  | [], acc => Nat.le_refl _
  | s :: ss, acc => by
    rw [List.foldl_cons]
    refine Nat.le_trans ?_ (fold_le ss (acc ++ s))
    rw [Str.length_append]; omega
theorem tJs_of {F : Hp} {O0 O1 : List Addr} {σ : Sg} {Q : Str → Hp → Prop} {H0 : Hp} : ∀ (ss : List Str) (acc : Str) (H : Hp), (ss.foldl (· ++ ·) acc).length ≤ sizeLine → SA F O0 O1 ρ σ H → Ex (msk (O1 ++ O0) H0) (msk (O1 ++ O0) H) →
    (∀ H', SA F O0 O1 ρ σ H' → Ex (msk (O1 ++ O0) H0) (msk (O1 ++ O0) H') → Q (ss.foldl (· ++ ·) acc) H') → tJs (ss.map fun s => tP ρ (Eq (.str s))) acc σ H Q
  | [], acc, H, _, s, e, k => k H s e
  | t :: ss, acc, H, hl, s, e, k => ⟨F, O0, O1, s, fun v d H' s' e' hd r => by
    subst hd
    cases r
    exact ⟨t, rfl, Nat.le_trans (fold_le ss (acc ++ t)) hl, tJs_of ss (acc ++ t) H' hl s' (e.trans e') k⟩⟩
theorem ev_joined {v1 v2 : Expr} {ss : List Str} (h : EvJs X ρ (v1 :: v2 :: es) ss) (hl : (ss.foldl (· ++ ·) Str.empty).length ≤ big) : Ev X ρ (.JoinedStr (v1 :: v2 :: es) pos) (.str (ss.foldl (· ++ ·) Str.empty)) :=
  pe_imp (pe_joined h.pj) fun σ H Q ⟨F, O0, O1, s, q⟩ => tJs_of (H0 := H) ss Str.empty H (le_line hl) s (Ex.refl _) fun H' s' e' => q _ _ H' s' e' rfl (.str _ hl)
/-- a place that is open -/
theorem evn_ix {ds : List PyData} {R : Int → Prop} {D : PyData → Prop} (ha : Ev X ρ a (.tuple ds)) (hb : EvN X ρ b (II R)) (h : ∀ i, R i → ∃ d, atI ds i = some d ∧ D d) (hs : PlainIx b := by exact fun _ _ => rfl) : EvN X ρ (.Subscript a b pos) D :=
  pe_imp (pe_ix ix_tup ha hb hs) (tOp_of fun da db e1 ⟨i, e2, hi⟩ => by
    subst e1; subst e2
    obtain ⟨d, hd, hD⟩ := h i hi
    intro O H x y Q al hx hy k
    cases hy
    cases hx with
    | tup h1 h2 h3 =>
      obtain ⟨v, q1, q2⟩ := atI_rp h3 hd
      exact ⟨_, _, i, v, rfl, rfl, SqT.of (msk_some h1).2, q1, k.here hD q2⟩)
end
end PL

namespace Mus
open PySem PySem.Spec PyProof.Rows L2 PL
/-! ## desks: operations, states, contracts -/
abbrev Op := Bool × Int
abbrev Ent := Op × List Int
def eOp (o : Op) : PyData := .tuple [.str (if o.1 = true then "grant" else "refuse"), .int o.2]
def eEnt (e : Ent) : PyData := .tuple [eOp e.1, eT e.2]
def dsk (p : Plan) (s : List Int) (dn un : List Ent) : Dsk := ⟨eP p, eT s, dn.map eEnt, un.map eEnt⟩
def plus (s : List Int) (w : Int) : List Int := sortI (s ++ [w])
def minus (s : List Int) (w : Int) : List Int := s.filter fun x => decide (x ≠ w)
theorem plus_len (s : List Int) (w : Int) : (plus s w).length = s.length + 1 := by
  unfold plus
  rw [(sortI_perm _).length_eq, List.length_append]; rfl
theorem mem_plus {s : List Int} {w x : Int} : x ∈ plus s w ↔ x ∈ s ∨ x = w := by
  unfold plus
  rw [(sortI_perm _).mem_iff, List.mem_append, List.mem_singleton]
theorem plus_some {p : Plan} {s : List Int} {w : Int} (h : SomeOk p s) (w0 : 0 ≤ w) (w1 : w < p.wishes.length) (hn : w ∉ s) : SomeOk p (plus s w) := by
  refine ⟨fun x hx => ?_, fun x hx => ?_, sortI_asc ?_⟩
  · rcases mem_plus.mp hx with e | e
    · exact h.lo x e
    · rw [e]; exact w0
  · rcases mem_plus.mp hx with e | e
    · exact h.hi x e
    · rw [e]; exact w1
  · rw [List.nodup_append]
    refine ⟨((asc_iff s).mp h.as).imp fun q => by omega, by simp, fun a ha b hb => ?_⟩
    rw [List.mem_singleton.mp hb]
    intro e
    rw [e] at ha
    exact hn ha
theorem minus_some {p : Plan} {s : List Int} (h : SomeOk p s) (w : Int) : SomeOk p (minus s w) := h.sub List.filter_sublist
abbrev DA := Plan × List Int × List Ent × List Ent
def dA (a : DA) : Dsk := dsk a.1 a.2.1 a.2.2.1 a.2.2.2
def c_become : CtD := ⟨DA × Op × List Int, fun a => [eOp a.2.1, eT a.2.2], fun a => dA a.1, fun a => a.1.2.2.1.length + 1 ≤ big, fun a => dsk a.1.1 a.2.2 (a.1.2.2.1 ++ [(a.2.1, a.1.2.1)]) [], fun a => .int (a.2.2.length : Nat)⟩
def c_grant : CtD := ⟨DA × Int, fun a => [.int a.2], fun a => dA a.1, fun a => a.1.1.Ok ∧ SomeOk a.1.1 a.1.2.1 ∧ (0 ≤ a.2 ∧ a.2 < a.1.1.wishes.length) ∧ a.2 ∉ a.1.2.1 ∧ good a.1.1 (plus a.1.2.1 a.2) = true ∧ a.1.2.2.1.length + 1 ≤ big,
  fun a => dsk a.1.1 (plus a.1.2.1 a.2) (a.1.2.2.1 ++ [((true, a.2), a.1.2.1)]) [], fun a => .int ((plus a.1.2.1 a.2).length : Nat)⟩
def c_refuse : CtD := ⟨DA × Int, fun a => [.int a.2], fun a => dA a.1, fun a => a.1.1.Ok ∧ SomeOk a.1.1 a.1.2.1 ∧ a.2 ∈ a.1.2.1 ∧ a.1.2.2.1.length + 1 ≤ big,
  fun a => dsk a.1.1 (minus a.1.2.1 a.2) (a.1.2.2.1 ++ [((false, a.2), a.1.2.1)]) [], fun a => .int ((minus a.1.2.1 a.2).length : Nat)⟩
def badOp (p : Plan) (s : List Int) (g : Bool) (d : PyData) (k : Ek) : Prop := (k = .number ∧ isBetween d 0 ((p.wishes.length : Int) - 1) = false) ∨
  ∃ w : Int, d = .int w ∧ (0 ≤ w ∧ w < p.wishes.length) ∧ if g = true then (k = .already ∧ w ∈ s) ∨ (k = .bad ∧ w ∉ s ∧ good p (plus s w) = false) else k = .notyet ∧ w ∉ s
def x_grant : CtRX := ⟨DA × PyData × Ek, fun a => [a.2.1], fun a => dA a.1, fun a => a.1.1.Ok ∧ SomeOk a.1.1 a.1.2.1 ∧ badOp a.1.1 a.1.2.1 true a.2.1 a.2.2, fun a => a.2.2⟩
def x_refuse : CtRX := ⟨DA × PyData × Ek, fun a => [a.2.1], fun a => dA a.1, fun a => a.1.1.Ok ∧ SomeOk a.1.1 a.1.2.1 ∧ badOp a.1.1 a.1.2.1 false a.2.1 a.2.2, fun a => a.2.2⟩
def c_granted : CtR := ⟨DA, fun _ => [], fun a => dA a, fun _ => True, fun a => eT a.2.1⟩
def c_options : CtR := ⟨DA, fun _ => [], fun a => dA a, fun a => a.1.Ok ∧ SomeOk a.1 a.2.1, fun a => eT (added a.1 a.2.1)⟩
def reach (p : Plan) (s : List Int) : Nat := maxL ((goodOnes p).filter fun r => within s r)
def c_reachable : CtR := ⟨DA, fun _ => [], fun a => dA a, fun a => a.1.Ok ∧ SomeOk a.1 a.2.1 ∧ good a.1 a.2.1 = true, fun a => .int (reach a.1 a.2.1 : Nat)⟩
def histD (dn : List Ent) : PyData := .tuple (dn.map fun e => eOp e.1)
def c_history : CtR := ⟨DA, fun _ => [], fun a => dA a, fun a => True, fun a => histD a.2.2.1⟩
def c_len : CtR := ⟨DA, fun _ => [], fun a => dA a, fun a => True, fun a => .int (a.2.1.length : Nat)⟩
def gtxt (a b : Nat) : Str := ((txt a ++ (" of " : Str)) ++ txt b) ++ (" granted" : Str)
def c_strD : CtR := ⟨DA, fun _ => [], fun a => dA a, fun a => a.2.1.length ≤ 8 ∧ a.1.wishes.length ≤ 8, fun a => .str (gtxt a.2.1.length a.1.wishes.length)⟩
theorem txt_1 : ∀ n : Nat, n ≤ 8 → (txt n).length = 1 := fun n h => by
  have : n = 0 ∨ n = 1 ∨ n = 2 ∨ n = 3 ∨ n = 4 ∨ n = 5 ∨ n = 6 ∨ n = 7 ∨ n = 8 := by omega
  rcases this with e | e | e | e | e | e | e | e | e <;> subst e <;> decide +kernel
theorem log_small {n : Nat} (h : n ≤ 8) : (n : Int).natAbs.log2 < 1920 := by
  have : n = 0 ∨ n = 1 ∨ n = 2 ∨ n = 3 ∨ n = 4 ∨ n = 5 ∨ n = 6 ∨ n = 7 ∨ n = 8 := by omega
  rcases this with e | e | e | e | e | e | e | e | e <;> subst e <;> decide +kernel
theorem of_len : ((" of " : Str)).length = 4 := by decide +kernel
theorem gr_len : ((" granted" : Str)).length = 8 := by decide +kernel
theorem gtxt_len {a b : Nat} (ha : a ≤ 8) (hb : b ≤ 8) : (gtxt a b).length = 14 := by
  unfold gtxt
  rw [Str.length_append, Str.length_append, Str.length_append, txt_1 a ha, txt_1 b hb, of_len, gr_len]
theorem gtxt_ok : ∀ a : Fin 9, ∀ b : Fin 9, PyData.strOk (gtxt a.1 b.1) = true := by decide +kernel
theorem gtxt_shp {a b : Nat} (ha : a ≤ 8) (hb : b ≤ 8) : SeqAt.shaped (.str (gtxt a b)) = true := (shp_str _ (gtxt_ok ⟨a, by omega⟩ ⟨b, by omega⟩)).ok
theorem eqv_str (s : Str) : PyData.eqv (.str s) (.str s) = true := by simp only [PyData.eqv, beq_self_eq_true]
theorem empty_app (s : Str) : Str.empty ++ s = s := by
  cases s
  show (⟨#[] ++ _⟩ : Str) = _
  rw [Array.empty_append]
theorem reach_in {p : Plan} {s : List Int} (hs : SomeOk p s) (hg : good p s = true) : s ∈ (goodOnes p).filter fun r => within s r :=
  List.mem_filter.mpr ⟨mem_good.mpr ⟨hs, hg⟩, within_iff.mpr fun _ h => h⟩
theorem noL_eT (l : List Int) : noL (eT l) = true := noLs_map _ (fun _ => rfl) l
theorem noL_hist (dn : List Ent) : noL (histD dn) = true := noLs_map _ (fun _ => rfl) dn
/-! what an operation does -/
def opO (p : Plan) (s : List Int) (o : Op) : Out :=
  if (p.wishes.length : Int) ≤ o.2 then .err .number else if o.1 = true then (if o.2 ∈ s then .err .already else if good p (plus s o.2) = true then .val (.int ((plus s o.2).length : Nat)) else .err .bad) else if o.2 ∈ s then .val (.int ((minus s o.2).length : Nat)) else .err .notyet
def opS (p : Plan) (s : List Int) (o : Op) : List Int :=
  if (p.wishes.length : Int) ≤ o.2 then s else if o.1 = true then (if o.2 ∈ s then s else if good p (plus s o.2) = true then plus s o.2 else s) else if o.2 ∈ s then minus s o.2 else s
/-- it can be done -/
def opG (p : Plan) (s : List Int) (o : Op) : Prop := o.2 < p.wishes.length ∧ if o.1 = true then o.2 ∉ s ∧ good p (plus s o.2) = true else o.2 ∈ s
theorem opO_val {p : Plan} {s : List Int} {o : Op} (h : opG p s o) : opO p s o = .val (.int ((opS p s o).length : Nat)) ∧ opS p s o = if o.1 = true then plus s o.2 else minus s o.2 := by
  obtain ⟨h1, h2⟩ := h
  unfold opO opS
  have n1 : ¬ ((p.wishes.length : Int) ≤ o.2) := by omega
  rw [if_neg n1, if_neg n1]
  by_cases g : o.1 = true
  · rw [if_pos g] at h2 ⊢
    rw [if_pos g, if_pos g, if_neg h2.1, if_pos h2.2, if_neg h2.1, if_pos h2.2]
    exact ⟨rfl, rfl⟩
  · rw [if_neg g] at h2 ⊢
    rw [if_neg g, if_neg g, if_pos h2, if_pos h2]
    exact ⟨rfl, rfl⟩
theorem opO_err {p : Plan} {s : List Int} {o : Op} (o0 : 0 ≤ o.2) (h : ¬ opG p s o) : ∃ k, opO p s o = .err k ∧ opS p s o = s ∧ badOp p s o.1 (.int o.2) k := by
  unfold opG at h
  unfold opO opS badOp
  by_cases h1 : (p.wishes.length : Int) ≤ o.2
  · rw [if_pos h1, if_pos h1]
    exact ⟨.number, rfl, rfl, .inl ⟨rfl, between_no (by omega)⟩⟩
  · rw [if_neg h1, if_neg h1]
    have h1' : o.2 < p.wishes.length := by omega
    by_cases g : o.1 = true
    · rw [if_pos g, if_pos g, g]
      rw [if_pos g] at h
      by_cases m : o.2 ∈ s
      · rw [if_pos m, if_pos m]
        exact ⟨.already, rfl, rfl, .inr ⟨o.2, rfl, ⟨o0, h1'⟩, by rw [if_pos rfl]; exact .inl ⟨rfl, m⟩⟩⟩
      · rw [if_neg m, if_neg m]
        have hb : good p (plus s o.2) = false := by
          cases q : good p (plus s o.2) with
          | false => rfl
          | true => exact absurd ⟨h1', m, q⟩ h
        rw [if_neg (by rw [hb]; exact Bool.false_ne_true), if_neg (by rw [hb]; exact Bool.false_ne_true)]
        exact ⟨.bad, rfl, rfl, .inr ⟨o.2, rfl, ⟨o0, h1'⟩, by rw [if_pos rfl]; exact .inr ⟨rfl, m, hb⟩⟩⟩
    · have g' : o.1 = false := by simpa using g
      rw [if_neg g, if_neg g, g']
      rw [if_neg g] at h
      have m : o.2 ∉ s := fun m => h ⟨h1', m⟩
      rw [if_neg m, if_neg m]
      exact ⟨.notyet, rfl, rfl, .inr ⟨o.2, rfl, ⟨o0, h1'⟩, by rw [if_neg Bool.false_ne_true]; exact ⟨rfl, m⟩⟩⟩
theorem opS_some {p : Plan} {s : List Int} {o : Op} (hp : p.Ok) (o0 : 0 ≤ o.2) (hs : SomeOk p s) (hg : good p s = true) : SomeOk p (opS p s o) ∧ good p (opS p s o) = true := by
  by_cases h : opG p s o
  · rw [(opO_val h).2]
    obtain ⟨h1, h2⟩ := h
    by_cases g : o.1 = true
    · rw [if_pos g] at h2 ⊢
      exact ⟨plus_some hs o0 h1 h2.1, h2.2⟩
    · rw [if_neg g]
      exact ⟨minus_some hs _, good_sub hp hs List.filter_sublist hg⟩
  · obtain ⟨k, _, e, _⟩ := opO_err o0 h
    rw [e]
    exact ⟨hs, hg⟩
instance (p : Plan) (s : List Int) (o : Op) : Decidable (opG p s o) := by unfold opG; infer_instance
/-- the history -/
def opH (p : Plan) (s : List Int) (o : Op) (dn : List Ent) : List Ent := if opG p s o then dn ++ [(o, s)] else dn
def c_law_operation : Ct := ⟨Nat, fun m => [.int (m : Nat)], fun m => m ≤ 100, fun m d => ∃ o : Op, d = eOp o ∧ 0 ≤ o.2 ∧ o.2 ≤ m⟩
def c_law_call : CtD := ⟨DA × Op, fun a => [eOp a.2], fun a => dA a.1, fun a => a.1.1.Ok ∧ SomeOk a.1.1 a.1.2.1 ∧ 0 ≤ a.2.2 ∧ opG a.1.1 a.1.2.1 a.2 ∧ a.1.2.2.1.length + 1 ≤ big, fun a => dsk a.1.1 (opS a.1.1 a.1.2.1 a.2) (a.1.2.2.1 ++ [(a.2, a.1.2.1)]) [], fun a => .int ((opS a.1.1 a.1.2.1 a.2).length : Nat)⟩
def x_law_call : CtRX := ⟨DA × Op × Ek, fun a => [eOp a.2.1], fun a => dA a.1, fun a => a.1.1.Ok ∧ SomeOk a.1.1 a.1.2.1 ∧ badOp a.1.1 a.1.2.1 a.2.1.1 (.int a.2.1.2) a.2.2, fun a => a.2.2⟩
def c_law_due : Ct := ⟨Plan × List Int × Op, fun a => [eP a.1, eT a.2.1, eOp a.2.2], fun a => a.1.Ok ∧ SomeOk a.1 a.2.1 ∧ 0 ≤ a.2.2.2, fun a => Eq (.tuple [(opO a.1 a.2.1 a.2.2).d, eT (opS a.1 a.2.1 a.2.2)])⟩
def c_law_agrees : CtR := ⟨DA, fun a => [eP a.1, eLT (goodOnes a.1), eT a.2.1, histD a.2.2.1], fun a => dA a, fun a => a.1.Ok ∧ SomeOk a.1 a.2.1 ∧ good a.1 a.2.1 = true ∧ a.2.2.1.length ≤ 64, fun _ => .bool true⟩
theorem opO_shp (p : Plan) (s : List Int) (o : Op) : SeqAt.shaped (opO p s o).d = true := by
  by_cases h : opG p s o
  · rw [(opO_val h).1]; exact (shp_val (shp_int _)).ok
  · unfold opO
    repeat' split
    all_goals first | exact (shp_val (shp_int _)).ok | exact shp_err _
theorem opO_eqv (p : Plan) (s : List Int) (o : Op) : PyData.eqv (opO p s o).d (opO p s o).d = true := by
  unfold opO
  repeat' split
  all_goals first | exact eqv_val (by rw [eqI]; simp) | (rw [eqv_err]; simp)
theorem shp_gr (b : Bool) : Shp 0 (.str (if b = true then "grant" else "refuse")) := by
  cases b
  · exact shp_str _ (by decide +kernel)
  · exact shp_str _ (by decide +kernel)
theorem gr_ne : (("grant" : Str) == "refuse") = false := by decide +kernel
theorem ge_ne : (("refuse" : Str) == "grant") = false := by decide +kernel
theorem eqv_gr (a b : Bool) : PyData.eqv (.str (if a = true then "grant" else "refuse")) (.str (if b = true then "grant" else "refuse")) = decide (a = b) := by
  cases a <;> cases b <;> simp only [PyData.eqv, if_true, if_false, Bool.false_eq_true, gr_ne, ge_ne, beq_self_eq_true, decide_true] <;> rfl
theorem en_Op : En eOp 1 := ⟨fun o => shp_tuple (n := 0) fun d hd => by
    simp only [List.mem_cons, List.not_mem_nil, or_false] at hd
    rcases hd with h | h
    · rw [h]; exact shp_gr _
    · rw [h]; exact shp_int _, fun a b => by
    have e : PyData.eqv (eOp a) (eOp b) = (PyData.eqv (.str (if a.1 = true then "grant" else "refuse")) (.str (if b.1 = true then "grant" else "refuse")) && (PyData.eqv (.int a.2) (.int b.2) && true)) := by
      unfold eOp
      simp only [PyData.eqv, PyData.eqvAll]
    rw [e, eqv_gr, eqI]
    obtain ⟨a1, a2⟩ := a
    obtain ⟨b1, b2⟩ := b
    rw [Bool.eq_iff_iff]
    simp⟩
end Mus

namespace Mus
open PySem PySem.Spec PyProof.Rows L2 PL
def topS (i : Nat) : Stmt := PySem.Challenge.pw_museumloans_k20_desks.main.body.getD i (.Pass ⟨0, 0, 0, 0⟩)
section
variable {P : Program} {w : World} {K : PySem.W.Frag} {mg : Str → Option Value} {base : Heap} {cl : Ek → Addr} {CS : Addr}

abbrev s_law_begun : Stmt := topS 37
abbrev n_law_begun : List Str := []
theorem sc_law_begun : FnScope n_law_begun [] (defScope s_law_begun) := ⟨rfl, rfl, rfl, by decide +kernel, rfl, by decide +kernel, by decide +kernel⟩
theorem d_law_begun {f fd} (A : DefAt K mg "_law_begun" s_law_begun [] f fd) (B : Bt mg) : DefB P w K mg base 1 "_law_begun" := by
  exact defB_mk A sc_law_begun ⟨[], rfl, rfl⟩

abbrev s_law_draw : Stmt := topS 36
abbrev n_law_draw : List Str := ["_law_script", "_law_town", "_law_many", "_law_at", "_law_rest", "_law_number"]
theorem sc_law_draw : FnScope n_law_draw ["_law_script", "_law_town", "_law_many"] (defScope s_law_draw) := ⟨rfl, rfl, rfl, by decide +kernel, rfl, by decide +kernel, by decide +kernel⟩
theorem d_law_draw {f fd} (A : DefAt K mg "_law_draw" s_law_draw ["_law_script", "_law_town", "_law_many"] f fd) (B : Bt mg) : DefT P w K mg base 1 "_law_draw" ["_law_script", "_law_town", "_law_many"] c_law_draw := by
  refine defT_mk A sc_law_draw (fun _ => rfl) fun (m : Int) sa t r ns ⟨m1, m2⟩ hn cdv Ar outer s H E hr => ?_
  show HSs _ _ [.mt (scr K sa ns), .mt (twn t r), .dat (.int m), .un, .un, .un] _
  refine hs_count (C := fun _ => True) hr 1 rfl (evn_add (evn_count hr 1) (evn_int (P := fun _ => True) ev_int trivial) (fun _ _ _ _ => trivial)) ?_
  refine hs_setN (i := 3) (D := II fun k => 0 ≤ k ∧ k < 63 ∧ (ns.isEmpty = false → k < ns.length)) sc_law_draw.nd rfl (Or.inl rfl) rfl (evn_if (et_scr 0) (fun hne => evn_mod (P := fun _ => True) (Q := fun j => j = ns.length) (evn_count hr 1) (evn_int (ev_scrLen 0 rfl (by rfl) B.len) rfl) fun i j _ hj => ?_) (fun h0 => evn_int ev_int ?_)) fun d ⟨at_, hd, h1, h2, h3⟩ => ?_
  · subst hj
    have : 0 < ns.length := by
      cases ns with
      | nil => cases hne
      | cons _ _ => exact Nat.succ_pos _
    have q1 := Int.emod_nonneg i (show (ns.length : Int) ≠ 0 by omega)
    have q2 := Int.emod_lt_of_pos i (show (0 : Int) < ns.length by omega)
    exact ⟨by omega, q1, by omega, fun _ => q2⟩
  · refine ⟨by decide, by decide, fun z => ?_⟩
    rw [z] at h0; cases h0
  subst hd
  refine hs_setN (i := 4) (D := II fun _ => True) sc_law_draw.nd rfl (Or.inl rfl) rfl (evn_rest hr 1 rfl (evn_int (vr 3) trivial) (evn_if (et_scr 0) (fun hne => evn_scrAt 0 rfl (evn_int (vr 3) ⟨h1, h3 (by cases ns with | nil => cases hne | cons _ _ => rfl)⟩)) fun _ => evn_int ev_int trivial)) fun d ⟨rest, hd, _⟩ => ?_
  subst hd
  show HSs _ _ [.mt (scr K sa ns), .mt (twn t r), .dat (.int m), .dat (.int at_), .dat (.int rest), .un] _
  refine hs_if0 (et_ge (vr 4) (ev_pow ev_int ev_int ⟨by decide, by decide, by decide⟩)) (fun _ => ?_) fun _ => ?_
  · refine hs_rest hr 1 rfl (evn_int (ev_fdiv (vr 4) (vr 2) ⟨by omega, by omega⟩) trivial) (evn_int (vr 3) ⟨h1, h2⟩) ?_
    exact hs_ret (ev_mod (vr 4) (vr 2) (by omega)) ⟨⟨_, rfl, Int.emod_nonneg _ (by omega), Int.emod_lt_of_pos _ (by omega)⟩, rfl⟩
  · refine hs_setN (i := 5) (D := II fun k => 0 ≤ k ∧ k < 4294967291) sc_law_draw.nd rfl (Or.inl rfl) rfl (evn_mod (P := fun _ => True) (Q := fun j => j = 4294967291) (evn_add (P := fun _ => True) (Q := fun _ => True) (evn_int (vr 4) trivial) (evn_mul (P := fun i => i = 104729) (Q := fun _ => True) (evn_int ev_int rfl) (evn_count hr 1) fun i j hi _ => ⟨Or.inl (by subst hi; decide), trivial⟩) fun _ _ _ _ => trivial) (evn_int ev_int rfl) fun i j _ hj => ?_) fun d ⟨n1, hd, g1, g2⟩ => ?_
    · subst hj
      exact ⟨by decide, Int.emod_nonneg _ (by decide), Int.emod_lt_of_pos _ (by decide)⟩
    subst hd
    refine hs_setN (i := 5) (D := II fun k => 0 ≤ k ∧ k < 4294967279) sc_law_draw.nd rfl (Or.inl rfl) rfl (evn_int (ev_mod (ev_pow (vr 5) ev_int ⟨by decide, by decide, by omega⟩) ev_int (by decide)) ⟨Int.emod_nonneg _ (by decide), Int.emod_lt_of_pos _ (by decide)⟩) fun d ⟨n2, hd, g3, g4⟩ => ?_
    subst hd
    exact hs_ret (ev_mod (ev_fdiv (ev_mod (ev_add (ev_mul (ev_fdiv (vr 5) ev_int ⟨by decide, by decide⟩) ev_int (Or.inr (by decide))) (vr 5)) ev_int (by decide)) ev_int ⟨by decide, by decide⟩) (vr 2) (by omega)) ⟨⟨_, rfl, Int.emod_nonneg _ (by omega), Int.emod_lt_of_pos _ (by omega)⟩, rfl⟩

abbrev s_law_plan : Stmt := topS 38
abbrev n_law_plan : List Str := ["_law_script", "_law_town", "_law_most", "_law_many", "_law_place", "_law_limits", "_law_objects", "_law_rows", "_law_k", "_law_home", "_law_worth", "_law_rest", "_law_at", "_law_first"]
theorem sc_law_plan : FnScope n_law_plan ["_law_script", "_law_town", "_law_most"] (defScope s_law_plan) := ⟨rfl, rfl, rfl, by decide +kernel, rfl, by decide +kernel, by decide +kernel⟩
theorem d_law_plan {f fd} (A : DefAt K mg "_law_plan" s_law_plan ["_law_script", "_law_town", "_law_most"] f fd) (B : Bt mg) (h_law_draw : DefT P w K mg base 1 "_law_draw" ["_law_script", "_law_town", "_law_many"] c_law_draw) : DefT P w K mg base 2 "_law_plan" ["_law_script", "_law_town", "_law_most"] c_law_plan := by
  refine defT_mk A sc_law_plan (fun _ => rfl) fun (m : Int) sa t r ns ⟨m0, m8⟩ hns cdv Ar outer s H E hr => ?_
  show HSs _ _ [.mt (scr K sa ns), .mt (twn t r), .dat (.int m), .un, .un, .un, .un, .un, .un, .un, .un, .un, .un, .un] _
  refine hs_setN (i := 3) (D := II fun k => 2 ≤ k ∧ k ≤ 4) sc_law_plan.nd rfl (Or.inl rfl) rfl (evn_add (P := fun i => i = 2) (evn_int ev_int rfl) (evn_drawI h_law_draw 0 1 hr (by rfl) ev_int (by decide) (by decide)) fun i j hi ⟨h1, h2⟩ => by omega) fun d ⟨many, hd, hm1, hm2⟩ => ?_
  subst hd
  obtain ⟨mn, rfl⟩ : ∃ mn : Nat, many = mn := ⟨many.toNat, by omega⟩
  refine hs_parN (E := fun ds => ∃ hs : List Int, ds = [eT hs, .tuple [], .tuple []] ∧ hs.length = mn ∧ ∀ x ∈ hs, 5 ≤ x ∧ x ≤ 18) [("_law_limits", 5), ("_law_objects", 6), ("_law_rows", 7)] rfl sc_law_plan.nd rfl (ean_imp (ean_cons (A := fun d => ∃ hs : List Int, d = eT hs ∧ hs.length = mn ∧ ∀ x ∈ hs, 5 ≤ x ∧ x ≤ 18) (evn_tupleL (by rfl) B.tuple ?_) (ea_cons (ev_tup ea_nil) (ea_cons (ev_tup ea_nil) ea_nil))) ?_) ?_ (by decide) (fun ds ⟨hs, hd, hl, hh⟩ => ?_) rfl
  · refine evn_lcs (rangeD 0 mn) PyData.int (fun _ b => b = true) (fun _ => II fun i => 5 ≤ i ∧ i ≤ 18) (fun l es => ∃ hs : List Int, es = hs.map PyData.int ∧ hs.length = l.length ∧ ∀ x ∈ hs, 5 ≤ x ∧ x ≤ 18) [("_law_place", 4)] (fun x => [.mt (scr K sa ns), .mt (twn t r), .dat (.int m), .dat (.int mn), .dat (.int x), .un, .un, .un, .un, .un, .un, .un, .un, .un]) rfl sc_law_plan.nd
      (ei_eq (ei_range1 (n := (mn : Int)) (by rfl) B.range (vr 3) (by omega) (by omega)) (by simp)) (blkOk_by (N := n_law_plan) (sc := defScope s_law_plan) (by decide +kernel)) rfl
      (fun x _ s H C cl fp => eg_name 4 sc_law_plan.nd) (fun _ _ => rfl) (fun _ _ => rfl)
      (fun x hx s H C cl fp => pt_imps pts_yes fun b hb => hb.symm)
      (fun x hx _ s H C cl fp => evn_add (P := fun i => i = 5) (evn_int ev_int rfl) (evn_drawI h_law_draw 0 1 hr (by rfl) ev_int (by decide) (by decide)) fun i j hi ⟨h1, h2⟩ => by omega) ?_ ?_ ?_ ?_
    · exact ⟨[], rfl, rfl, by simp⟩
    · intro l x es z _ ⟨hs, h1, h2, h3⟩ _ ⟨i, hz, hi⟩
      refine ⟨hs ++ [i], by rw [h1, hz, List.map_append]; rfl, by simp [h2], fun y hy => ?_⟩
      rcases List.mem_append.mp hy with q | q
      · exact h3 y q
      · rw [List.mem_singleton.mp q]; exact hi
    · intro l x es _ _ hb
      cases hb
    · intro es ⟨hs, h1, h2, h3⟩
      exact ⟨es, rfl, hs, by rw [h1], by rw [h2, rangeD_len], h3⟩
  · intro ds ⟨d, r, e1, ⟨hs, e2, h1⟩, e3⟩
    subst e1; subst e2; subst e3
    exact ⟨hs, rfl, h1⟩
  · intro ds ⟨hs, hd, _⟩
    rw [hd]; rfl
  · subst hd
    have h2' : 2 ≤ hs.length := by omega
    have h4' : hs.length ≤ 4 := by omega
    have em : (mn : Int) = hs.length := by omega
    show HSs _ _ [.mt (scr K sa ns), .mt (twn t r), .dat (.int m), .dat (.int mn), .un, .dat (eT hs), .dat (.tuple []), .dat (.tuple []), .un, .un, .un, .un, .un, .un] _
    rw [em]
    refine hs_for (E := fun ds => ∃ n : Nat, ds = (rangeD 0 n).map PyData.int ∧ 1 ≤ n ∧ n ≤ 3) (fun _ i ρ => ∃ os : List Obj, ρ = [.mt (scr K sa ns), .mt (twn t r), .dat (.int m), .dat (.int hs.length), .un, .dat (eT hs), .dat (.tuple (os.map eO)), .dat (.tuple []), .un, .un, .un, .un, .un, .un] ∧ os.length = i ∧
      ∀ o ∈ os, (0 ≤ o.home ∧ o.home < hs.length) ∧ (1 ≤ o.value ∧ o.value ≤ 12) ∧ (0 ≤ o.rest ∧ o.rest ≤ 4) ∧ (4 ≤ o.light ∧ o.light ≤ 21)) (fun _ => False) PassesOwn.never rfl
      (ein_range1 (by rfl) B.range (evn_add (P := fun i => i = 1) (R := fun i => 1 ≤ i ∧ i ≤ 3) (evn_int ev_int rfl) (evn_drawI h_law_draw 0 1 hr (by rfl) ev_int (by decide) (by decide)) fun i j hi ⟨h1, h2⟩ => by omega) fun d ⟨i, hd, h1, h2⟩ => ⟨i, hd, by omega, by omega, i.toNat, rfl, by omega, by omega⟩)
      (fun ds _ => ⟨[], rfl, rfl, by simp⟩) (fun ds i d ρ1 ⟨n, hE, n1, n2⟩ hd ⟨os, hρ, hl, ho⟩ => ?_) (fun ds ρ1 ⟨n, hE, n1, n2⟩ ⟨os, hρ, hl, ho⟩ => ?_) (fun _ z => z.elim)
    · subst hρ
      have hi3 : i < 3 := by
        have := (List.getElem?_eq_some_iff.mp hd).1
        rw [hE, List.length_map, rangeD_len] at this
        omega
      refine ⟨_, [8], eg_name 8 sc_law_plan.nd, ?_⟩
      refine hs_setN (i := 9) (D := II fun i => 0 ≤ i ∧ i < hs.length) sc_law_plan.nd rfl (Or.inl rfl) rfl (evn_drawI h_law_draw 0 1 hr (by rfl) (vr 3) (by omega) (by omega)) fun d ⟨home, hd, g1, g2⟩ => ?_
      subst hd
      refine hs_setN (i := 10) (D := II fun i => 1 ≤ i ∧ i ≤ 12) sc_law_plan.nd rfl (Or.inl rfl) rfl (evn_add (P := fun i => i = 1) (evn_int ev_int rfl) (evn_drawI h_law_draw 0 1 hr (by rfl) ev_int (by decide) (by decide)) fun i j hi ⟨h1, h2⟩ => by omega) fun d ⟨worth, hd, g3, g4⟩ => ?_
      subst hd
      refine hs_setN (i := 11) (D := II fun i => 0 ≤ i ∧ i < 5) sc_law_plan.nd rfl (Or.inl rfl) rfl (evn_drawI h_law_draw 0 1 hr (by rfl) ev_int (by decide) (by decide)) fun d ⟨rest, hd, g5, g6⟩ => ?_
      subst hd
      refine hs_setN (i := 6) (D := fun d => ∃ l, d = .tuple ((os ++ [(⟨home, worth, rest, l⟩ : Obj)]).map eO) ∧ 4 ≤ l ∧ l ≤ 21) sc_law_plan.nd rfl (Or.inl rfl) rfl
        (evn_catT (A := fun xs => xs = os.map eO) (B := fun ys => ∃ l, ys = [eO ⟨home, worth, rest, l⟩] ∧ 4 ≤ l ∧ l ≤ 21) (evn_pure (D := fun d => ∃ xs, d = .tuple xs ∧ xs = os.map eO) (vr 6) ⟨_, rfl, rfl⟩)
          (evn_tup (ean_cons (A := fun d => ∃ l, d = eO ⟨home, worth, rest, l⟩ ∧ 4 ≤ l ∧ l ≤ 21) (evn_tup (ean_cons (vr 9) (ean_cons (vr 10) (ean_cons (vr 11) (ean_cons (evn_add (P := fun i => i = 4) (Q := fun j => 0 ≤ j ∧ j < 18) (R := fun l => 4 ≤ l ∧ l ≤ 21) (evn_int ev_int rfl) (evn_drawI h_law_draw 0 1 hr (by rfl) ev_int (by decide) (by decide)) fun i j hi hj => by omega) ea_nil)))) ?_) ea_nil) ?_) ?_) fun d ⟨l, hd, g7, g8⟩ => ?_
      · rintro ds ⟨_, _, e1, rfl, _, _, e2, rfl, _, _, e3, rfl, _, _, e4, ⟨l, rfl, hl⟩, rfl⟩
        subst e4; subst e3; subst e2; subst e1
        exact ⟨by show 4 ≤ 4096; decide, l, rfl, hl⟩
      · rintro ds ⟨_, _, e1, ⟨l, rfl, hl⟩, rfl⟩
        subst e1
        exact ⟨by show 1 ≤ 4096; decide, _, rfl, l, rfl, hl⟩
      · rintro xs ys rfl ⟨l, rfl, hl⟩
        refine ⟨by rw [List.length_map]; show _ ≤ 4096; simp; omega, l, by rw [List.map_append]; rfl, hl⟩
      · subst hd
        refine hs_nilW [8, 9, 10, 11] ⟨os ++ [⟨home, worth, rest, l⟩], rfl, by simp [hl], fun o ho' => ?_⟩
        rcases List.mem_append.mp ho' with q | q
        · exact ho o q
        · rw [List.mem_singleton.mp q]
          exact ⟨⟨g1, g2⟩, ⟨g3, g4⟩, ⟨g5, by show rest ≤ 4; omega⟩, g7, g8⟩
    · subst hρ
      have ho1 : 1 ≤ os.length := by rw [hl, hE, List.length_map, rangeD_len]; omega
      have ho3 : os.length ≤ 3 := by rw [hl, hE, List.length_map, rangeD_len]; omega
      clear hl hE
      show HSs _ _ [.mt (scr K sa ns), .mt (twn t r), .dat (.int m), .dat (.int hs.length), .un, .dat (eT hs), .dat (.tuple (os.map eO)), .dat (.tuple []), .un, .un, .un, .un, .un, .un] _
      refine hs_for (E := fun ds => ∃ n : Nat, ds = (rangeD 0 n).map PyData.int ∧ (n : Int) ≤ m) (fun _ i ρ => ∃ ws : List Wish, ρ = [.mt (scr K sa ns), .mt (twn t r), .dat (.int m), .dat (.int hs.length), .un, .dat (eT hs), .dat (.tuple (os.map eO)), .dat (.tuple (ws.map eW)), .un, .un, .un, .un, .un, .un] ∧ ws.length = i ∧
        (∀ w ∈ ws, (0 ≤ w.house ∧ w.house < hs.length) ∧ (0 ≤ w.item ∧ w.item < os.length) ∧ ((Plan.mk hs os ws).obj w.item).home ≠ w.house ∧ (0 ≤ w.first ∧ w.first ≤ 23) ∧ w.first ≤ w.last ∧ w.last ≤ w.first + 7)) (fun _ => False) PassesOwn.never rfl
        (ein_range1 (by rfl) B.range (evn_draw (Q := fun i => i = m + 1) (R := fun i => 0 ≤ i ∧ i ≤ m) h_law_draw 0 1 hr (by rfl) (evn_int (ev_add (vr 2) ev_int) rfl) fun m' hm' => ⟨by omega, by omega, fun i h1 h2 => by omega⟩) fun d ⟨i, hd, h1, h2⟩ => ⟨i, hd, by omega, by omega, i.toNat, rfl, by omega⟩)
        (fun ds _ => ⟨[], rfl, rfl, by simp⟩) (fun ds i d ρ1 ⟨n, hE, n1⟩ hd ⟨ws, hρ, hl, hw⟩ => ?_) (fun ds ρ1 ⟨n, hE, n1⟩ ⟨ws, hρ, hl, hw⟩ => ?_) (fun _ z => z.elim)
      · subst hρ
        have hi8 : (i : Int) < m := by
          have := (List.getElem?_eq_some_iff.mp hd).1
          rw [hE, List.length_map, rangeD_len] at this
          omega
        refine ⟨_, [8], eg_name 8 sc_law_plan.nd, ?_⟩
        refine hs_parN (E := fun ds => ∃ a f : Int, ds = [.int a, .int f] ∧ (0 ≤ a ∧ a < os.length) ∧ 0 ≤ f ∧ f < 24) [("_law_at", 12), ("_law_first", 13)] rfl sc_law_plan.nd rfl
          (ean_imp (ean_cons (evn_draw (Q := fun i => i = os.length) (R := fun i => 0 ≤ i ∧ i < os.length) h_law_draw 0 1 hr (by rfl) (evn_int (ev_eq' (ev_lenT (by rfl) B.len (vr 6)) (by rw [List.length_map])) rfl) fun m' hm' => ⟨by omega, by omega, fun i h1 h2 => by omega⟩)
            (ean_cons (evn_drawI h_law_draw 0 1 hr (by rfl) ev_int (by decide) (by decide)) ea_nil)) ?_) ?_ (by decide) (fun ds ⟨a, f, hd, ha, hf⟩ => ?_) rfl
        · rintro ds ⟨_, _, e1, ⟨a, rfl, ha⟩, _, _, e2, ⟨f, rfl, hf⟩, rfl⟩
          subst e2; subst e1
          exact ⟨a, f, rfl, ha, hf⟩
        · rintro ds ⟨a, f, rfl, _⟩
          rfl
        · subst hd
          show HSs _ _ [.mt (scr K sa ns), .mt (twn t r), .dat (.int m), .dat (.int hs.length), .un, .dat (eT hs), .dat (.tuple (os.map eO)), .dat (.tuple (ws.map eW)), .dat _, .un, .un, .un, .dat (.int a), .dat (.int f)] _
          have hob : (Plan.mk hs os ws).obj a ∈ os := Plan.obj_mem (p := ⟨hs, os, ws⟩) ha.1 ha.2
          obtain ⟨⟨b1, b2⟩, _⟩ := ho _ hob
          refine hs_setN (i := 4) (D := II fun h => 0 ≤ h ∧ h < hs.length ∧ ((Plan.mk hs os ws).obj a).home ≠ h) sc_law_plan.nd rfl (Or.inl rfl) rfl
            (evn_mod (P := fun i => ∃ j, i = ((Plan.mk hs os ws).obj a).home + 1 + j ∧ 0 ≤ j ∧ j < hs.length - 1) (Q := fun j => j = hs.length) (evn_add (P := fun i => i = ((Plan.mk hs os ws).obj a).home + 1) (Q := fun j => 0 ≤ j ∧ j < hs.length - 1) (evn_int (ev_add (ev_ix (ev_ix (vr 6) (vr 12) (Plan.at_obj (p := ⟨hs, os, ws⟩) ha.1 ha.2)) ev_int rfl) ev_int) rfl)
              (evn_draw (Q := fun i => i = hs.length - 1) h_law_draw 0 1 hr (by rfl) (evn_int (ev_sub (vr 3) ev_int) rfl) fun m' hm' => ⟨by omega, by omega, fun i h1 h2 => by omega⟩) fun i j hi hj => ⟨j, by rw [hi], hj⟩) (evn_int (vr 3) rfl) fun i j ⟨k, hi, k1, k2⟩ hj => ?_) fun d ⟨h, hd, h0, h1, h2⟩ => ?_
          · subst hi; subst hj
            obtain ⟨q1, q2, q3⟩ := put_far (m := hs.length) (by omega) (by omega) b1 b2 k1 k2
            exact ⟨by omega, q1, q2, q3⟩
          subst hd
          refine hs_setN (i := 7) (D := fun d => ∃ l, d = .tuple ((ws ++ [(⟨h, a, f, l⟩ : Wish)]).map eW) ∧ f ≤ l ∧ l ≤ f + 7) sc_law_plan.nd rfl (Or.inl rfl) rfl
            (evn_catT (A := fun xs => xs = ws.map eW) (B := fun ys => ∃ l, ys = [eW ⟨h, a, f, l⟩] ∧ f ≤ l ∧ l ≤ f + 7) (evn_pure (D := fun d => ∃ xs, d = .tuple xs ∧ xs = ws.map eW) (vr 7) ⟨_, rfl, rfl⟩)
              (evn_tup (ean_cons (A := fun d => ∃ l, d = eW ⟨h, a, f, l⟩ ∧ f ≤ l ∧ l ≤ f + 7) (evn_tup (ean_cons (vr 4) (ean_cons (vr 12) (ean_cons (vr 13) (ean_cons (evn_add (P := fun i => i = f) (Q := fun j => 0 ≤ j ∧ j < 8) (R := fun l => f ≤ l ∧ l ≤ f + 7) (evn_int (vr 13) rfl) (evn_drawI h_law_draw 0 1 hr (by rfl) ev_int (by decide) (by decide)) fun i j hi hj => by omega) ea_nil)))) ?_) ea_nil) ?_) ?_) fun d ⟨l, hd, g7, g8⟩ => ?_
          · rintro ds ⟨_, _, e1, rfl, _, _, e2, rfl, _, _, e3, rfl, _, _, e4, ⟨l, rfl, hl⟩, rfl⟩
            subst e4; subst e3; subst e2; subst e1
            exact ⟨by show 4 ≤ 4096; decide, l, rfl, hl⟩
          · rintro ds ⟨_, _, e1, ⟨l, rfl, hl⟩, rfl⟩
            subst e1
            exact ⟨by show 1 ≤ 4096; decide, _, rfl, l, rfl, hl⟩
          · rintro xs ys rfl ⟨l, rfl, hl'⟩
            refine ⟨by rw [List.length_map]; show _ ≤ 4096; simp; omega, l, by rw [List.map_append]; rfl, hl'⟩
          · subst hd
            refine hs_nilW [4, 8, 12, 13] ⟨ws ++ [⟨h, a, f, l⟩], rfl, by simp [hl], fun w hw' => ?_⟩
            rcases List.mem_append.mp hw' with q | q
            · exact hw w q
            · rw [List.mem_singleton.mp q]
              exact ⟨⟨h0, h1⟩, ha, h2, ⟨hf.1, by show f ≤ 23; omega⟩, g7, g8⟩
      · subst hρ
        refine hs_ret (ev_tup (ea_cons (vr 5) (ea_cons (vr 6) (ea_cons (vr 7) ea_nil)))) ⟨⟨⟨hs, os, ws⟩, rfl, ⟨h2', h4', ?_, ho1, ho3, ho, hw⟩, ?_⟩, rfl⟩
        · exact hh
        · show (ws.length : Int) ≤ m
          rw [hl, hE, List.length_map, rangeD_len]
          exact n1

abbrev s_law_subsets : Stmt := topS 40
abbrev n_law_subsets : List Str := ["_law_many", "_law_rows", "_law_number", "_law_row"]
theorem sc_law_subsets : FnScope n_law_subsets ["_law_many"] (defScope s_law_subsets) := ⟨rfl, rfl, rfl, by decide +kernel, rfl, by decide +kernel, by decide +kernel⟩
theorem d_law_subsets {f fd} (A : DefAt K mg "_law_subsets" s_law_subsets ["_law_many"] f fd) (B : Bt mg) : Def P w K mg base 1 "_law_subsets" ["_law_many"] c_subsets_of := by
  refine def_mk A sc_law_subsets (fun _ => rfl) fun (n : Nat) (hn : n ≤ 8) cdv Ar outer s H E hr => ?_
  show HSs _ _ [.dat (.int n), .un, .un, .un] _
  refine hs_set (i := 1) (d := eLT [[]]) sc_law_subsets.nd rfl (Or.inl rfl) rfl (ev_lst (ds := [.tuple []]) (ea_cons (ev_tup (ds := []) ea_nil) ea_nil)) ?_
  refine hs_forD (xs := rangeD 0 n) (enc := PyData.int) (fun i => [.dat (.int n), .dat (eLT (subs i)), .un, .un]) PassesOwn.never rfl (ei_eq (ei_range1 (n := (n : Int)) (by rfl) B.range (vr 0) (by omega) (by omega)) (by simp)) rfl (fun i x hx => ?_) ?_
  · obtain ⟨rfl, hi⟩ := rangeD_get hx
    refine ⟨_, [2], eg_name 2 sc_law_subsets.nd, ?_⟩
    have hl : (subs i).length ≤ 256 := by rw [subs_len]; exact (Nat.pow_le_pow_right (n := 2) (by decide) (show i ≤ 8 by omega))
    refine hs_set (i := 1) (d := eLT (subs (i + 1))) sc_law_subsets.nd rfl (Or.inl rfl) rfl (ev_eq' (ev_catL (vr 1) (ev_lcE0 (enc' := eT) (f := fun (r : List Int) => r ++ [(i : Int)]) (xs := subs i) rfl sc_law_subsets.nd
      (Lc.mk1 (enc := eT) [("_law_row", 3)] (fun r => [.dat (.int n), .dat (eLT (subs i)), .dat (.int (i : Nat)), .dat (eT r)]) (ei_list (vr 1)) (blkOk_by (N := n_law_subsets) (sc := defScope s_law_subsets) (by decide +kernel)) rfl
        (fun x _ s H C cl fp => eg_name 3 sc_law_subsets.nd) (fun _ _ => rfl) (fun _ _ => rfl)
        (fun x _ s H C cl fp => pts_yes)
        (fun r hr _ s H C cl fp => ev_eq' (ev_catT (vr 3) (ev_tup (ea_cons (vr 2) ea_nil)) ?_) ?_))) ?_) ?_) ?_
    · have h1 := mem_subs.mp hr
      have h2 := (sub_of_mem h1.1 ((asc_iff _).mpr (asc_range 0 i)) fun x hx => rangeD_mem.mpr (by have := h1.2 x hx; omega)).length_le
      rw [rangeD_len] at h2
      rw [List.length_map]
      show _ ≤ 4096
      simp only [List.length_cons, List.length_nil]
      omega
    · show _ = eT (r ++ [(i : Int)])
      unfold eT
      rw [List.map_append]; rfl
    · simp only [List.length_map]
      show _ ≤ 4096
      omega
    · rw [← List.map_append]; rfl
    · exact hs_nilW [2] rfl
  · rw [rangeD_len]
    exact hs_ret (vr 1) rfl

abbrev s_law_against : Stmt := topS 39
abbrev n_law_against : List Str := ["_law_plan_here", "_law_some", "_law_limits", "_law_objects", "_law_rows", "_law_found", "_law_at", "_law_one", "_law_weeks", "_law_other", "_law_mine", "_law_yours", "_law_rest", "_law_place", "_law_here", "_law_week", "_law_row", "_law_worth"]
theorem sc_law_against : FnScope n_law_against ["_law_plan_here", "_law_some"] (defScope s_law_against) := ⟨rfl, rfl, rfl, by decide +kernel, rfl, by decide +kernel, by decide +kernel⟩
theorem d_law_against {f fd} (A : DefAt K mg "_law_against" s_law_against ["_law_plan_here", "_law_some"] f fd) (B : Bt mg) : Def P w K mg base 1 "_law_against" ["_law_plan_here", "_law_some"] c_law_against := by
  refine def_mk A sc_law_against (fun _ => rfl) fun (⟨p, s⟩ : Plan × List Int) ⟨(hp : p.Ok), (hs : SomeOk p s)⟩ cdv Ar outer sh H E hr => ?_
  show HSs _ _ [.dat (eP p), .dat (eT s), .un, .un, .un, .un, .un, .un, .un, .un, .un, .un, .un, .un, .un, .un, .un, .un] _
  have hr8 := hs.len
  have hw8 := hp.w8
  have ho4 := hp.o4
  have hh4 := hp.h4
  have hok : WsOk p (named p s) := hs.wsok hp
  have hit : ∀ x ∈ s, 0 ≤ (p.wish x).item ∧ (p.wish x).item < p.objects.length := fun x hx => hok.it _ (List.mem_map_of_mem hx)
  have hat : ∀ x ∈ s, atI (p.wishes.map eW) x = some (eW (p.wish x)) := fun x hx => p.at_wish (hs.lo x hx) (hs.hi x hx)
  refine hs_asg (js := [2, 3, 4]) (vr 0) (eg_tup rfl (.cons (eg_name 2 sc_law_against.nd) (.cons (eg_name 3 sc_law_against.nd) (.cons (eg_name 4 sc_law_against.nd) .nil rfl) rfl) rfl)) ?_
  refine hs_setF (i := 5) sc_law_against.nd rfl (Or.inl rfl) rfl (ef_lst ea_nil (fun ds e => by subst e; decide)) fun ds e => ?_
  subst e
  show HSs _ _ [.dat (eP p), .dat (eT s), .dat (eT p.houses), .dat (.tuple (p.objects.map eO)), .dat (.tuple (p.wishes.map eW)), .own [], .un, .un, .un, .un, .un, .un, .un, .un, .un, .un, .un, .un] _
  refine hs_forD (xs := rangeD 0 p.objects.length) (enc := PyData.int) (fun i => [.dat (eP p), .dat (eT s), .dat (eT p.houses), .dat (.tuple (p.objects.map eO)), .dat (.tuple (p.wishes.map eW)), .own ((aL p s i).map eR), .un, .un, .un, .un, .un, .un, .un, .un, .un, .un, .un, .un]) PassesOwn.never rfl
    (ei_eq (ei_range1 (n := (p.objects.length : Int)) (by rfl) B.range (ev_eq' (ev_lenT (by rfl) B.len (vr 3)) (by rw [List.length_map])) (by omega) (by omega)) (by simp)) rfl (fun i x hx => ?_) ?_
  · obtain ⟨rfl, hi⟩ := rangeD_get hx
    refine ⟨_, [6], eg_name 6 sc_law_against.nd, ?_⟩
    refine hs_setLc (i := 8) rfl sc_law_against.nd rfl rfl rfl (sw_true rfl rfl rfl (by decide +kernel))
      (Lc.mk1 (enc := PyData.int) (xs := s) (f := fun x => PyData.int ((p.wish x).last - (p.wish x).first + 1)) (g := fun x => decide ((p.wish x).item = (i : Int))) [("_law_one", 7)] (fun x => [.dat (eP p), .dat (eT s), .dat (eT p.houses), .dat (.tuple (p.objects.map eO)), .dat (.tuple (p.wishes.map eW)), .own ((aL p s i).map eR), .dat (.int (i : Nat)), .dat (.int x), .un, .un, .un, .un, .un, .un, .un, .un, .un, .un]) (ei_tup (vr 1)) (blkOk_by (N := n_law_against) (sc := defScope s_law_against) (by decide +kernel)) rfl
        (fun x _ s H C cl fp => eg_name 7 sc_law_against.nd) (fun _ _ => rfl) (fun _ _ => rfl)
        (fun x hx s H C cl fp => pts_one (et_eq hr (ev_ix (ev_ix (vr 4) (vr 7) (hat x hx)) ev_int rfl) (vr 6) rfl rfl (eqI _ _)))
        (fun x hx _ s H C cl fp => ev_add (ev_sub (ev_ix (ev_ix (vr 4) (vr 7) (hat x hx)) ev_int rfl) (ev_ix (ev_ix (vr 4) (vr 7) (hat x hx)) ev_int rfl)) ev_int)) fun ds es e he => ?_
    have e2 : es = (awks p s i).map PyData.int := lc_is (enc' := PyData.int) e he
    subst e2
    have hl := aL_len p s i
    refine hs_if (b := decide ((p.obj (i : Int)).light < (awks p s (i : Int)).sum)) (fun r => r = [.dat (eP p), .dat (eT s), .dat (eT p.houses), .dat (.tuple (p.objects.map eO)), .dat (.tuple (p.wishes.map eW)), .own ((aL p s (i + 1)).map eR), .dat (.int (i : Nat)), .un, .dat (.list ((awks p s i).map PyData.int)), .un, .un, .un, .un, .un, .un, .un, .un, .un])
      (et_gt (ev_sum rfl (by rfl) B.sum (vr 8)) (ev_ix (ev_ix (vr 3) (vr 6) (p.at_obj (by omega) (by omega))) ev_int rfl)) (fun hb => ?_) (fun hb => ?_) fun r hr' => ?_
    · refine hs_appendN (i := 5) rfl (Or.inl rfl) rfl (ev_tup (ea_cons ev_str (ea_cons (vr 6) ea_nil))) (by rw [List.length_map]; show _ ≤ 4096; omega) fun d hd => hs_nil ?_
      subst hd
      rw [aL_succ, if_pos hb, List.map_append]
      rfl
    · refine hs_nil ?_
      rw [aL_succ, if_neg (by rw [hb]; exact Bool.false_ne_true), List.append_nil]
      rfl
    · subst hr'
      exact hs_nilW [6, 8] rfl
  rw [rangeD_len]
  have hl1 := aL_len p s p.objects.length
  generalize hL : aL p s p.objects.length = L at hl1
  refine hs_forD (xs := s) (enc := PyData.int) (fun i => [.dat (eP p), .dat (eT s), .dat (eT p.houses), .dat (.tuple (p.objects.map eO)), .dat (.tuple (p.wishes.map eW)), .own ((L ++ aR p s (s.take i)).map eR), .un, .un, .un, .un, .un, .un, .un, .un, .un, .un, .un, .un]) PassesOwn.never rfl
    (ei_tup (vr 1)) (by rw [List.take_zero]; show _ = [_, _, _, _, _, SD.own ((L ++ []).map eR), _, _, _, _, _, _, _, _, _, _, _, _]; rw [List.append_nil]) (fun i x hx => ?_) ?_
  · have hxs := List.mem_of_getElem? hx
    refine ⟨_, [7], eg_name 7 sc_law_against.nd, ?_⟩
    have hlR := aR_len p s (s.take i)
    have htk : (s.take i).length ≤ 8 := by rw [List.length_take]; omega
    have hmul : (s.take i).length * s.length ≤ 64 := Nat.le_trans (Nat.mul_le_mul htk (by omega : s.length ≤ 8)) (by decide)
    generalize hR : aR p s (s.take i) = R at hlR
    refine hs_forD (xs := s) (enc := PyData.int) (fun j => [.dat (eP p), .dat (eT s), .dat (eT p.houses), .dat (.tuple (p.objects.map eO)), .dat (.tuple (p.wishes.map eW)), .own ((L ++ R ++ aRow p x (s.take j)).map eR), .un, .dat (.int x), .un, .un, .un, .un, .un, .un, .un, .un, .un, .un]) PassesOwn.never rfl
      (ei_tup (vr 1)) (by rw [List.take_zero]; show _ = [_, _, _, _, _, SD.own ((L ++ R ++ []).map eR), _, _, _, _, _, _, _, _, _, _, _, _]; rw [List.append_nil]; rfl) (fun j y hy => ?_) ?_
    · have hys := List.mem_of_getElem? hy
      have hlr := aRow_len p x (s.take j)
      have htk2 : (s.take j).length ≤ 8 := by rw [List.length_take]; omega
      refine ⟨_, [9], eg_name 9 sc_law_against.nd, ?_⟩
      refine hs_parN (E := Eq [eW (p.wish x), eW (p.wish y)]) [("_law_mine", 10), ("_law_yours", 11)] rfl sc_law_against.nd rfl (ea_cons (ev_ix (vr 4) (vr 7) (hat x hxs)) (ea_cons (ev_ix (vr 4) (vr 9) (hat y hys)) ea_nil)) (fun ds e => by subst e; rfl) (by decide) (fun ds e => ?_) rfl
      subst e
      show HSs _ _ [.dat (eP p), .dat (eT s), .dat (eT p.houses), .dat (.tuple (p.objects.map eO)), .dat (.tuple (p.wishes.map eW)), .own ((L ++ R ++ aRow p x (s.take j)).map eR), .un, .dat (.int x), .un, .dat (.int y), .dat (eW (p.wish x)), .dat (eW (p.wish y)), .un, .un, .un, .un, .un, .un] _
      refine hs_if (b := aPair p x y) (fun r => r = [.dat (eP p), .dat (eT s), .dat (eT p.houses), .dat (.tuple (p.objects.map eO)), .dat (.tuple (p.wishes.map eW)), .own ((L ++ R ++ aRow p x (s.take (j + 1))).map eR), .un, .dat (.int x), .un, .dat (.int y), .dat (eW (p.wish x)), .dat (eW (p.wish y)), .un, .un, .un, .un, .un, .un])
        (et_and _ _ (et_lt (vr 7) (vr 9)) (fun _ => ew_and1 (et_eq hr (ev_ix (vr 10) ev_int rfl) (ev_ix (vr 11) ev_int rfl) rfl rfl (eqI _ _))) rfl) (fun hb => ?_) (fun hb => ?_) fun r hr' => ?_
      · refine hs_set (i := 12) sc_law_against.nd rfl (Or.inl rfl) rfl (ev_ix (ev_ix (vr 3) (ev_ix (vr 10) ev_int rfl) (p.at_obj (hit x hxs).1 (hit x hxs).2)) ev_int rfl) ?_
        refine hs_if (b := aNear p x y) (fun r => r = [.dat (eP p), .dat (eT s), .dat (eT p.houses), .dat (.tuple (p.objects.map eO)), .dat (.tuple (p.wishes.map eW)), .own ((L ++ R ++ aRow p x (s.take (j + 1))).map eR), .un, .dat (.int x), .un, .dat (.int y), .dat (eW (p.wish x)), .dat (eW (p.wish y)), .dat (.int (p.obj (p.wish x).item).rest), .un, .un, .un, .un, .un])
          (et_and _ _ (et_ge (ev_add (ev_ix (vr 10) ev_int rfl) (vr 12)) (ev_ix (vr 11) ev_int rfl)) (fun _ => ew_and1 (et_ge (ev_add (ev_ix (vr 11) ev_int rfl) (vr 12)) (ev_ix (vr 10) ev_int rfl))) rfl) (fun hn => ?_) (fun hn => ?_) fun r hr' => ?_
        · refine hs_appendN (i := 5) rfl (Or.inl rfl) rfl (ev_tup (ea_cons ev_str (ea_cons (vr 7) (ea_cons (vr 9) ea_nil)))) (by rw [List.length_map, List.length_append, List.length_append]; show _ ≤ 4096; omega) fun d hd => hs_nil ?_
          subst hd
          rw [aRow_succ p x hy, if_pos (show (aPair p x y && aNear p x y) = true by rw [hb, hn]; rfl), ← List.append_assoc, List.map_append (l₂ := [_])]
          rfl
        · refine hs_nil ?_
          rw [aRow_succ p x hy, if_neg (show ¬ (aPair p x y && aNear p x y) = true by rw [hb, hn]; decide), List.append_nil]
          rfl
        · subst hr'
          exact hs_nilW [12] rfl
      · refine hs_nil ?_
        rw [aRow_succ p x hy, if_neg (show ¬ (aPair p x y && aNear p x y) = true by rw [hb]; exact Bool.false_ne_true), List.append_nil]
      · subst hr'
        exact hs_nilW [9, 10, 11] rfl
    · refine hs_nilW [7] ?_
      rw [List.take_length, aR_succ p s hx, hR, List.append_assoc]
      rfl
  rw [List.take_length]
  have hl2 := aR_len p s s
  have hmul : s.length * s.length ≤ 64 := Nat.le_trans (Nat.mul_le_mul (by omega : s.length ≤ 8) (by omega : s.length ≤ 8)) (by decide)
  generalize hR : aR p s s = R at hl2
  refine hs_forD (xs := rangeD 0 p.houses.length) (enc := PyData.int) (fun i => [.dat (eP p), .dat (eT s), .dat (eT p.houses), .dat (.tuple (p.objects.map eO)), .dat (.tuple (p.wishes.map eW)), .own ((L ++ R ++ aV p s i).map eR), .un, .un, .un, .un, .un, .un, .un, .un, .un, .un, .un, .un]) PassesOwn.never rfl
    (ei_eq (ei_range1 (n := (p.houses.length : Int)) (by rfl) B.range (ev_eq' (ev_lenT (by rfl) B.len (vr 2)) (by rw [List.length_map])) (by omega) (by omega)) (by simp)) (by show _ = [_, _, _, _, _, SD.own ((L ++ R ++ []).map eR), _, _, _, _, _, _, _, _, _, _, _, _]; rw [List.append_nil]) (fun i x hx => ?_) ?_
  · obtain ⟨rfl, hi⟩ := rangeD_get hx
    refine ⟨_, [13], eg_name 13 sc_law_against.nd, ?_⟩
    refine hs_setLc (i := 14) rfl sc_law_against.nd rfl rfl rfl (sw_true rfl rfl rfl (by decide +kernel))
      (Lc.mk1 (enc := PyData.int) (xs := s) (f := fun x => eW (p.wish x)) (g := fun x => decide ((p.wish x).house = (i : Int))) [("_law_one", 7)] (fun x => [.dat (eP p), .dat (eT s), .dat (eT p.houses), .dat (.tuple (p.objects.map eO)), .dat (.tuple (p.wishes.map eW)), .own ((L ++ R ++ aV p s i).map eR), .un, .dat (.int x), .un, .un, .un, .un, .un, .dat (.int (i : Nat)), .un, .un, .un, .un]) (ei_tup (vr 1)) (blkOk_by (N := n_law_against) (sc := defScope s_law_against) (by decide +kernel)) rfl
        (fun x _ s H C cl fp => eg_name 7 sc_law_against.nd) (fun _ _ => rfl) (fun _ _ => rfl)
        (fun x hx s H C cl fp => pts_one (et_eq hr (ev_ix (ev_ix (vr 4) (vr 7) (hat x hx)) ev_int rfl) (vr 13) rfl rfl (eqI _ _)))
        (fun x hx _ s H C cl fp => ev_ix (vr 4) (vr 7) (hat x hx))) fun ds es e he => ?_
    have e2 : es = (aHere p s i).map eW := lc_is (enc' := eW) e he
    subst e2
    have hWm : ∀ w ∈ aHere p s i, 0 ≤ w.item ∧ w.item < p.objects.length := fun w hw => by
      obtain ⟨x, hx, rfl⟩ := List.mem_map.mp hw
      exact hit x (List.mem_filter.mp hx).1
    have hlV := aV_len p s i
    generalize hV : aV p s i = V at hlV
    show HSs _ _ [.dat (eP p), .dat (eT s), .dat (eT p.houses), .dat (.tuple (p.objects.map eO)), .dat (.tuple (p.wishes.map eW)), .own ((L ++ R ++ V).map eR), .un, .un, .un, .un, .un, .un, .un, .dat (.int (i : Nat)), .dat (eLW (aHere p s i)), .un, .un, .un] _
    refine hs_forD (xs := rangeD 0 61) (enc := PyData.int) (fun k => [.dat (eP p), .dat (eT s), .dat (eT p.houses), .dat (.tuple (p.objects.map eO)), .dat (.tuple (p.wishes.map eW)), .own ((L ++ R ++ V ++ aCol p s i k).map eR), .un, .un, .un, .un, .un, .un, .un, .dat (.int (i : Nat)), .dat (eLW (aHere p s i)), .un, .un, .un]) PassesOwn.never rfl
      (ei_range1 (n := 61) (by rfl) B.range ev_int (by omega) (by omega)) (by show _ = [_, _, _, _, _, SD.own ((L ++ R ++ V ++ []).map eR), _, _, _, _, _, _, _, _, _, _, _, _]; rw [List.append_nil]) (fun k y hy => ?_) ?_
    · obtain ⟨rfl, hk⟩ := rangeD_get hy
      refine ⟨_, [15], eg_name 15 sc_law_against.nd, ?_⟩
      refine hs_setLc (i := 17) rfl sc_law_against.nd rfl rfl rfl (sw_true rfl rfl rfl (by decide +kernel))
        (Lc.mk1 (enc := eW) (xs := aHere p s i) (f := fun w => PyData.int (p.obj w.item).value) (g := fun w => decide (w.first ≤ (k : Int)) && decide ((k : Int) ≤ w.last)) [("_law_row", 16)] (fun w => [.dat (eP p), .dat (eT s), .dat (eT p.houses), .dat (.tuple (p.objects.map eO)), .dat (.tuple (p.wishes.map eW)), .own ((L ++ R ++ V ++ aCol p s i k).map eR), .un, .un, .un, .un, .un, .un, .un, .dat (.int (i : Nat)), .dat (eLW (aHere p s i)), .dat (.int (k : Nat)), .dat (eW w), .un]) (ei_list (vr 14)) (blkOk_by (N := n_law_against) (sc := defScope s_law_against) (by decide +kernel)) rfl
          (fun x _ s H C cl fp => eg_name 16 sc_law_against.nd) (fun _ _ => rfl) (fun _ _ => rfl)
          (fun x hx s H C cl fp => pts_one (PW.pt (ew_and (et_le (ev_ix (vr 16) ev_int rfl) (vr 15)) fun _ => ew_and1 (et_le (vr 15) (ev_ix (vr 16) ev_int rfl)))))
          (fun w hw _ s H C cl fp => ev_ix (ev_ix (vr 3) (ev_ix (vr 16) ev_int rfl) (p.at_obj (hWm w hw).1 (hWm w hw).2)) ev_int rfl)) fun ds es e he => ?_
      have e2 : es = (aWorth p (aHere p s i) k).map PyData.int := lc_is (enc' := PyData.int) e he
      subst e2
      have hlC := aCol_len p s i k
      refine hs_if (b := decide (p.lim (i : Int) < (aWorth p (aHere p s i) k).sum)) (fun r => r = [.dat (eP p), .dat (eT s), .dat (eT p.houses), .dat (.tuple (p.objects.map eO)), .dat (.tuple (p.wishes.map eW)), .own ((L ++ R ++ V ++ aCol p s i (k + 1)).map eR), .un, .un, .un, .un, .un, .un, .un, .dat (.int (i : Nat)), .dat (eLW (aHere p s i)), .dat (.int (k : Nat)), .un, .dat (.list ((aWorth p (aHere p s i) k).map PyData.int))])
        (et_gt (ev_sum rfl (by rfl) B.sum (vr 17)) (ev_ix (vr 2) (vr 13) (at_nat 0 (by omega) (by omega)))) (fun hb => ?_) (fun hb => ?_) fun r hr' => ?_
      · refine hs_appendN (i := 5) rfl (Or.inl rfl) rfl (ev_tup (ea_cons ev_str (ea_cons (vr 13) (ea_cons (vr 15) ea_nil)))) (by simp only [List.length_map, List.length_append]; show _ ≤ 4096; omega) fun d hd => hs_nil ?_
        subst hd
        rw [aCol_succ, if_pos hb, ← List.append_assoc, List.map_append (l₂ := [_])]
        rfl
      · refine hs_nil ?_
        rw [aCol_succ, if_neg (by rw [hb]; exact Bool.false_ne_true), List.append_nil]
        rfl
      · subst hr'
        exact hs_nilW [15, 17] rfl
    · refine hs_nilW [13, 14] ?_
      have e9 : L ++ R ++ aV p s (i + 1) = L ++ R ++ V ++ aCol p s i 61 := by rw [aV_succ, hV, ← List.append_assoc]
      rw [rangeD_len, e9]
      rfl
  rw [rangeD_len]
  refine hs_freeze 5 rfl (hs_ret (vr 5) ?_)
  show PyData.list ((against p s).map eR) = .list ((L ++ R ++ aV p s p.houses.length).map eR)
  unfold against
  rw [hL, hR]

abbrev s_law_goods : Stmt := topS 41
abbrev n_law_goods : List Str := ["_law_plan_here", "_law_row"]
theorem sc_law_goods : FnScope n_law_goods ["_law_plan_here"] (defScope s_law_goods) := ⟨rfl, rfl, rfl, by decide +kernel, rfl, by decide +kernel, by decide +kernel⟩
theorem d_law_goods {f fd} (A : DefAt K mg "_law_goods" s_law_goods ["_law_plan_here"] f fd) (B : Bt mg) (h_law_subsets : Def P w K mg base 1 "_law_subsets" ["_law_many"] c_subsets_of) (h_law_against : Def P w K mg base 1 "_law_against" ["_law_plan_here", "_law_some"] c_law_against) : Def P w K mg base 2 "_law_goods" ["_law_plan_here"] c_good_ones := by
  refine def_mk A sc_law_goods (fun _ => rfl) fun (p : Plan) (hp : p.Ok) cdv Ar outer s H E hr => ?_
  show HSs _ _ [.dat (eP p), .un] _
  refine hs_ret (ev_lcE (enc' := eT) (f := fun (r : List Int) => r) (g := good p) (xs := subs p.wishes.length) rfl sc_law_goods.nd
    (Lc.mk1 (enc := eT) [("_law_row", 1)] (fun r => [.dat (eP p), .dat (eT r)]) (ei_list (ev_call h_law_subsets p.wishes.length hr (by rfl) (ea_cons (ev_eq' (ev_lenT (by rfl) B.len (ev_ix (vr 0) ev_int rfl)) (by rw [List.length_map])) ea_nil) hp.w8)) (blkOk_by (N := n_law_goods) (sc := defScope s_law_goods) (by decide +kernel)) rfl
      (fun x _ s H C cl fp => eg_name 1 sc_law_goods.nd) (fun _ _ => rfl) (fun _ _ => rfl)
      (fun r hm s H C cl fp => pts_one (et_eq' (et_eq hr (ev_call h_law_against (p, r) hr (by rfl) (ea_cons (vr 0) (ea_cons (vr 1) ea_nil)) ⟨hp, subs_some.mp hm⟩) (ev_lst ea_nil) ((en_lst en_R).ok _) rfl (eqv_lnil _)) (by rw [List.isEmpty_map]; exact against_nil hp (subs_some.mp hm))))
      (fun r _ _ s H C cl fp => vr 1))) ?_
  rw [List.map_id']
  rfl

abbrev s_law_operation : Stmt := topS 42
abbrev n_law_operation : List Str := ["_law_script", "_law_town", "_law_many"]
theorem sc_law_operation : FnScope n_law_operation ["_law_script", "_law_town", "_law_many"] (defScope s_law_operation) := ⟨rfl, rfl, rfl, by decide +kernel, rfl, by decide +kernel, by decide +kernel⟩
theorem d_law_operation {f fd} (A : DefAt K mg "_law_operation" s_law_operation ["_law_script", "_law_town", "_law_many"] f fd) (B : Bt mg) (h_law_draw : DefT P w K mg base 1 "_law_draw" ["_law_script", "_law_town", "_law_many"] c_law_draw) : DefT P w K mg base 2 "_law_operation" ["_law_script", "_law_town", "_law_many"] c_law_operation := by
  refine defT_mk A sc_law_operation (fun _ => rfl) fun (m : Nat) sa t r ns (hm : m ≤ 100) hn cdv Ar outer s H E hr => ?_
  show HSs _ _ [.mt (scr K sa ns), .mt (twn t r), .dat (.int (m : Nat))] _
  refine hs_retN (D := fun d => ∃ o : Op, d = eOp o ∧ 0 ≤ o.2 ∧ o.2 ≤ m) (evn_tup (ean_cons (evn_ix (R := fun i => 0 ≤ i ∧ i < 4) (D := fun d => ∃ g : Bool, d = .str (if g = true then "grant" else "refuse")) (ev_tup (ea_cons ev_str (ea_cons ev_str (ea_cons ev_str (ea_cons ev_str ea_nil))))) (evn_drawI h_law_draw 0 1 hr (by rfl) ev_int (by decide) (by decide)) (fun i ⟨i0, i1⟩ => ?_)) (ean_cons (evn_draw (Q := fun i => i = m + 1) (R := fun i => 0 ≤ i ∧ i ≤ m) h_law_draw 0 1 hr (by rfl) (evn_int (ev_add (vr 2) ev_int) rfl) fun m' hm' => ⟨by omega, by omega, fun i h1 h2 => by omega⟩) ea_nil)) ?_) fun d hd => ⟨hd, rfl⟩
  · have : i = 0 ∨ i = 1 ∨ i = 2 ∨ i = 3 := by omega
    rcases this with e | e | e | e <;> subst e
    · exact ⟨_, rfl, true, rfl⟩
    · exact ⟨_, rfl, true, rfl⟩
    · exact ⟨_, rfl, true, rfl⟩
    · exact ⟨_, rfl, false, rfl⟩
  · rintro ds ⟨_, _, e1, ⟨g, rfl⟩, _, _, e2, ⟨i, rfl, i0, i1⟩, rfl⟩
    subst e2; subst e1
    exact ⟨by show 2 ≤ 4096; decide, (g, i), rfl, i0, i1⟩

abbrev s_law_due : Stmt := topS 44
abbrev n_law_due : List Str := ["_law_plan_here", "_law_some", "_law_operation_here", "_law_number", "_law_one", "_law_rest", "_law_more"]
theorem sc_law_due : FnScope n_law_due ["_law_plan_here", "_law_some", "_law_operation_here"] (defScope s_law_due) := ⟨rfl, rfl, rfl, by decide +kernel, rfl, by decide +kernel, by decide +kernel⟩
theorem d_law_due {f fd} (A : DefAt K mg "_law_due" s_law_due ["_law_plan_here", "_law_some", "_law_operation_here"] f fd) (B : Bt mg) (h_law_against : Def P w K mg base 1 "_law_against" ["_law_plan_here", "_law_some"] c_law_against) : Def P w K mg base 2 "_law_due" ["_law_plan_here", "_law_some", "_law_operation_here"] c_law_due := by
  refine def_mk A sc_law_due (fun _ => rfl) fun (⟨p, s, g, w0⟩ : Plan × List Int × Op) ⟨(hp : p.Ok), (hs : SomeOk p s), (o0 : 0 ≤ w0)⟩ cdv Ar outer sh H E hr => ?_
  have hsl := hs.len
  have hw8 := hp.w8
  show HSs _ _ (.dat (eP p) :: .dat (eT s) :: .dat (eOp (g, w0)) :: List.replicate 4 SD.un) { nx := fun _ => Eq (PyData.tuple [(opO p s (g, w0)).d, eT (opS p s (g, w0))]) PyData.none, rt := fun d _ => Eq (PyData.tuple [(opO p s (g, w0)).d, eT (opS p s (g, w0))]) d }
  unfold opO opS
  refine hs_set (i := 3) (d := .int w0) sc_law_due.nd rfl (by first | exact Or.inl rfl | exact Or.inr rfl) rfl (ev_ix (vr 2) ev_int rfl) ?_
  refine hs_if0 (b := decide ((p.wishes.length : Int) ≤ w0)) (et_ge (vr 3) (ev_eq' (ev_lenT (by rfl) B.len (ev_ix (vr 0) ev_int rfl)) (by rw [List.length_map]))) (fun h => ?_) fun h => ?_
  · have h' := of_decide_eq_true h
    rw [if_pos h', if_pos h']
    exact hs_ret (ev_tup (ea_cons (ev_tup (ea_cons ev_str ea_nil)) (ea_cons (vr 1) ea_nil))) rfl
  have h' := of_decide_eq_false h
  rw [if_neg h', if_neg h']
  have hlt : w0 < p.wishes.length := by omega
  refine hs_if0 (b := !g) (et_eq hr (ev_ix (vr 2) ev_int rfl) ev_str (shp_gr g).ok (shp_gr false).ok (by rw [show (PyData.str "refuse") = .str (if false = true then "grant" else "refuse") from rfl, eqv_gr]; cases g <;> rfl)) (fun hg => ?_) fun hg => ?_
  · have hg' : g = false := by simpa using hg
    subst hg'
    rw [if_neg Bool.false_ne_true, if_neg Bool.false_ne_true]
    refine hs_if0 (b := !decide (w0 ∈ s)) (et_ninT hr (vr 3) (vr 1) (en_int.ok _) (en_T.ok s) (congrArg _ (inD_map en_int w0 s))) (fun hm => ?_) fun hm => ?_
    · have hm' : w0 ∉ s := by simpa using hm
      rw [if_neg hm', if_neg hm']
      exact hs_ret (ev_tup (ea_cons (ev_tup (ea_cons ev_str ea_nil)) (ea_cons (vr 1) ea_nil))) rfl
    · have hm' : w0 ∈ s := by simpa using hm
      rw [if_pos hm', if_pos hm']
      refine hs_set (i := 5) (d := eT (minus s w0)) sc_law_due.nd rfl (by first | exact Or.inl rfl | exact Or.inr rfl) rfl (ev_tupleL (ds := (minus s w0).map PyData.int) (by rfl) B.tuple (ev_eq' (ev_lcE (enc' := PyData.int) (f := fun (y : Int) => y) (g := fun y => decide (y ≠ w0)) (xs := s) rfl sc_law_due.nd
        (Lc.mk1 (enc := PyData.int) [("_law_one", 4)] (fun y => .dat (eP p) :: .dat (eT s) :: .dat (eOp (false, w0)) :: .dat (.int w0) :: .dat (.int y) :: List.replicate 2 SD.un) (ei_tup (vr 1)) (blkOk_by (N := n_law_due) (sc := defScope s_law_due) (by decide +kernel)) rfl
          (fun x _ s H C cl fp => eg_name 4 sc_law_due.nd) (fun _ _ => rfl) (fun _ _ => rfl)
          (fun y _ s' H C cl fp => pts_one (et_ne hr (vr 4) (vr 3) (en_int.ok _) (en_int.ok _) (by rw [eqI]; simp)))
          (fun y _ _ s' H C cl fp => vr 4))) (by rw [List.map_id']; rfl))) ?_
      exact hs_ret (ev_tup (ea_cons (ev_tup (ea_cons ev_str (ea_cons (ev_lenT (by rfl) B.len (vr 5)) ea_nil))) (ea_cons (vr 5) ea_nil))) (by rw [List.length_map]; rfl)
  have hg' : g = true := by simpa using hg
  subst hg'
  rw [if_pos rfl, if_pos rfl]
  refine hs_if0 (b := decide (w0 ∈ s)) (et_inT hr (vr 3) (vr 1) (en_int.ok _) (en_T.ok s) (inD_map en_int w0 s)) (fun hm => ?_) fun hm => ?_
  · have hm' := of_decide_eq_true hm
    rw [if_pos hm', if_pos hm']
    exact hs_ret (ev_tup (ea_cons (ev_tup (ea_cons ev_str ea_nil)) (ea_cons (vr 1) ea_nil))) rfl
  have hm' := of_decide_eq_false hm
  rw [if_neg hm', if_neg hm']
  refine hs_set (i := 6) (d := eT (plus s w0)) sc_law_due.nd rfl (by first | exact Or.inl rfl | exact Or.inr rfl) rfl (ev_tupleL (ds := (plus s w0).map PyData.int) (by rfl) B.tuple (ev_eq' (ev_sortedT (ds := (s ++ [w0]).map PyData.int) hr (by rfl) B.sorted (ev_eq' (ev_catT (vr 1) (ev_tup (ea_cons (vr 3) ea_nil)) (by rw [List.length_map]; show s.length + 1 ≤ 4096; omega)) (by rw [List.map_append]; rfl)) (srt_ints _)) (congrArg PyData.list (sort_ints _)))) ?_
  have hps := plus_some hs o0 hlt hm'
  refine hs_if0 (b := !good p (plus s w0)) (et_eq' (et_ne hr (ev_call h_law_against (p, plus s w0) hr (by rfl) (ea_cons (vr 0) (ea_cons (vr 6) ea_nil)) ⟨hp, hps⟩) (ev_lst ea_nil) ((en_lst en_R).ok _) rfl rfl) (by rw [eqv_lnil, List.isEmpty_map, against_nil hp hps])) (fun hg => ?_) fun hg => ?_
  · rw [Bool.not_eq_true'] at hg
    rw [if_neg (by rw [hg]; exact Bool.false_ne_true), if_neg (by rw [hg]; exact Bool.false_ne_true)]
    exact hs_ret (ev_tup (ea_cons (ev_tup (ea_cons ev_str ea_nil)) (ea_cons (vr 1) ea_nil))) rfl
  · rw [Bool.not_eq_false'] at hg
    rw [if_pos hg, if_pos hg]
    exact hs_ret (ev_tup (ea_cons (ev_tup (ea_cons ev_str (ea_cons (ev_lenT (by rfl) B.len (vr 6)) ea_nil))) (ea_cons (vr 6) ea_nil))) (by rw [List.length_map]; rfl)

abbrev s_is_between : Stmt := topS 13
abbrev n_is_between : List Str := ["value", "low", "high"]
theorem sc_is_between : FnScope n_is_between ["value", "low", "high"] (defScope s_is_between) := ⟨rfl, rfl, rfl, by decide +kernel, rfl, by decide +kernel, by decide +kernel⟩
theorem d_is_between {f fd} (A : DefAt K mg "is_between" s_is_between ["value", "low", "high"] f fd) (B : Bt mg) : Def P w K mg base 1 "is_between" ["value", "low", "high"] c_is_between := by
  refine def_mk A sc_is_between (fun _ => rfl) fun ⟨d, lo, hi⟩ _ cdv Ar outer s H E hr => ?_
  show HSs _ _ [.dat d, .dat (.int lo), .dat (.int hi)] _
  refine hs_ret (ev_and (ev_isInt (by rfl) B.isinstance (by rfl) B.int (vr 0)) fun h1 => ev_and (ev_not (ev_isBool (by rfl) B.isinstance (by rfl) B.bool (vr 0))) fun h2 => ev_one ?_) rfl
  cases d with
  | int i => exact ev_lele (vr 1) (vr 0) (vr 2)
  | bool b => cases h2
  | _ => cases h1

abbrev s_check_number : Stmt := topS 18
abbrev n_check_number : List Str := ["value", "low", "high"]
theorem sc_check_number : FnScope n_check_number ["value", "low", "high"] (defScope s_check_number) := ⟨rfl, rfl, rfl, by decide +kernel, rfl, by decide +kernel, by decide +kernel⟩
theorem d_check_number {f fd} (A : DefAt K mg "check_number" s_check_number ["value", "low", "high"] f fd) (B : Bt mg) (h_is_between : Def P w K mg base 1 "is_between" ["value", "low", "high"] c_is_between) : Def P w K mg base 2 "check_number" ["value", "low", "high"] c_check_number := by
  refine def_mk A sc_check_number (fun _ => rfl) fun (⟨a, lo, hi⟩ : Int × Int × Int) ⟨h1, h2⟩ cdv Ar outer s H E hr => ?_
  have h1' : lo ≤ a := h1
  have h2' : a ≤ hi := h2
  show HSs _ _ [.dat (.int a), .dat (.int lo), .dat (.int hi)] _
  refine hs_if0 (b := false) (et_nt (et_val (ev_call h_is_between (.int a, lo, hi) hr (by rfl) (ea_cons (vr 0) (ea_cons (vr 1) (ea_cons (vr 2) ea_nil))) trivial (by show Eq (PyData.bool (isBetween (.int a) lo hi)) = Eq (.bool true); rw [isBetween_int, decide_eq_true h1', decide_eq_true h2']; rfl)))) (fun z => nomatch z) fun _ => hs_nil rfl

abbrev s_do_rest : Stmt := topS 19
abbrev n_do_rest : List Str := ["one", "other", "rest"]
theorem sc_do_rest : FnScope n_do_rest ["one", "other", "rest"] (defScope s_do_rest) := ⟨rfl, rfl, rfl, by decide +kernel, rfl, by decide +kernel, by decide +kernel⟩
theorem d_do_rest {f fd} (A : DefAt K mg "do_rest" s_do_rest ["one", "other", "rest"] f fd) (B : Bt mg) : Def P w K mg base 1 "do_rest" ["one", "other", "rest"] c_do_rest := by
  refine def_mk A sc_do_rest (fun _ => rfl) fun ⟨a, b, r⟩ _ cdv Ar outer s H E hr => ?_
  show HSs _ _ [.dat (eW a), .dat (eW b), .dat (.int r)] _
  exact hs_ret (ev_or (ev_gt (ev_ix (vr 0) ev_int rfl) (ev_add (ev_ix (vr 1) ev_int rfl) (vr 2))) fun _ => ev_one (ev_gt (ev_ix (vr 1) ev_int rfl) (ev_add (ev_ix (vr 0) ev_int rfl) (vr 2)))) rfl

abbrev s_tired : Stmt := topS 23
abbrev n_tired : List Str := ["plan", "wishes", "found", "at", "one", "there", "other"]
theorem sc_tired : FnScope n_tired ["plan", "wishes"] (defScope s_tired) := ⟨rfl, rfl, rfl, by decide +kernel, rfl, by decide +kernel, by decide +kernel⟩
theorem d_tired {f fd} (A : DefAt K mg "tired" s_tired ["plan", "wishes"] f fd) (B : Bt mg) (h_do_rest : Def P w K mg base 1 "do_rest" ["one", "other", "rest"] c_do_rest) : Def P w K mg base 2 "tired" ["plan", "wishes"] c_tired := by
  refine def_mk A sc_tired (fun _ => rfl) fun ⟨p, ws⟩ hp cdv Ar outer s H E hr => ?_
  show HSs _ _ [.dat (eP p), .dat (eLW ws), .un, .un, .un, .un, .un] _
  refine hs_setF (i := 2) sc_tired.nd rfl (Or.inl rfl) rfl (ef_lst ea_nil (fun ds e => by subst e; decide)) fun ds e => ?_
  subst e
  have sz : ws.length ≤ 16 := hp.len
  refine hs_forD (xs := ws.zipIdx) (enc := fun x => .tuple [.int (x.2 : Nat), eW x.1]) (fun i => [.dat (eP p), .dat (eLW ws), .own (((ws.zipIdx.take i).flatMap fun x => (tiredRow p ws x.1 x.2).map fun t => ((x.2 : Int), t)).map eII), .un, .un, .un, .un]) PassesOwn.never rfl (ei_eq (ei_enumL (by rfl) B.enumerate (vr 1)) (enumD_map eW ws)) rfl (fun i x hx => ?_) ?_
  · obtain ⟨hw, hi⟩ := zipIdx_get hx
    obtain ⟨w, i'⟩ := x
    subst hi
    have hlt : i' < ws.length := (List.getElem?_eq_some_iff.mp hw).1
    refine ⟨[.dat (eP p), .dat (eLW ws), .own (((ws.zipIdx.take i').flatMap fun x => (tiredRow p ws x.1 x.2).map fun t => ((x.2 : Int), t)).map eII), .dat (.int (i' : Nat)), .dat (eW w), .un, .un], [3, 4], eg_tup rfl (.cons (eg_name 3 sc_tired.nd) (.cons (eg_name 4 sc_tired.nd) .nil rfl) rfl), ?_⟩
    have pl := tired_pre_len p ws sz i'
    refine hs_forD (xs := rangeD ((i' : Int) + 1) ((ws.length : Int) - ((i' : Int) + 1)).toNat) (enc := PyData.int) (fun j => [.dat (eP p), .dat (eLW ws), .own ((((ws.zipIdx.take i').flatMap fun x => (tiredRow p ws x.1 x.2).map fun t => ((x.2 : Int), t)) ++ (((rangeD ((i' : Int) + 1) ((ws.length : Int) - ((i' : Int) + 1)).toNat).take j).filter fun t => tiredB p w (wAt ws t)).map fun t => ((i' : Int), t)).map eII), .dat (.int (i' : Nat)), .dat (eW w), .un, .un]) PassesOwn.never rfl
      (ei_range2 (by rfl) B.range (ev_add (vr 3) ev_int) (ev_eq' (ev_lenL (by rfl) B.len (vr 1)) (by rw [List.length_map]))) ?_ (fun j t hj => ?_) ?_
    · simp
    · have ht := rangeD_mem.mp (List.mem_of_getElem? hj)
      refine ⟨[.dat (eP p), .dat (eLW ws), .own ((((ws.zipIdx.take i').flatMap fun x => (tiredRow p ws x.1 x.2).map fun t => ((x.2 : Int), t)) ++ (((rangeD ((i' : Int) + 1) ((ws.length : Int) - ((i' : Int) + 1)).toNat).take j).filter fun t => tiredB p w (wAt ws t)).map fun t => ((i' : Int), t)).map eII), .dat (.int (i' : Nat)), .dat (eW w), .dat (.int t), .un], [5], eg_name 5 sc_tired.nd, ?_⟩
      refine hs_set (i := 6) sc_tired.nd rfl (Or.inl rfl) rfl (ev_ixL (vr 1) (vr 5) (at_nat (xs := ws) ⟨0, 0, 0, 0⟩ (by omega) (by omega))) ?_
      have hiw : 0 ≤ w.item ∧ w.item < p.objects.length := hp.it w (List.mem_of_getElem? hw)
      have fl : (((rangeD ((i' : Int) + 1) ((ws.length : Int) - ((i' : Int) + 1)).toNat).take j).filter fun t => tiredB p w (wAt ws t)).length ≤ 16 := by
        refine Nat.le_trans (List.length_filter_le ..) ?_
        rw [List.length_take, rangeD_len]; omega
      refine hs_if (b := tiredB p w (wAt ws t)) (fun r => r = [.dat (eP p), .dat (eLW ws), .own ((((ws.zipIdx.take i').flatMap fun x => (tiredRow p ws x.1 x.2).map fun t => ((x.2 : Int), t)) ++ (((rangeD ((i' : Int) + 1) ((ws.length : Int) - ((i' : Int) + 1)).toNat).take (j + 1)).filter fun t => tiredB p w (wAt ws t)).map fun t => ((i' : Int), t)).map eII), .dat (.int (i' : Nat)), .dat (eW w), .dat (.int t), .dat (eW (wAt ws t))])
        (et_and _ _ (et_eq hr (ev_ix (vr 4) ev_int rfl) (ev_ix (vr 6) ev_int rfl) rfl rfl (eqI _ _)) (fun _ => ew_and1 (et_not (et_val (ev_call h_do_rest (w, wAt ws t, (p.obj w.item).rest) hr (by rfl) (ea_cons (vr 4) (ea_cons (vr 6) (ea_cons (ev_ix (ev_ix (ev_ix (vr 0) ev_int rfl) (ev_ix (vr 4) ev_int rfl) (p.at_obj hiw.1 hiw.2)) ev_int rfl) ea_nil))) trivial)))) rfl)
        (fun hb => ?_) (fun hb => ?_) fun r hr' => ?_
      · refine hs_appendN (i := 2) rfl (Or.inl rfl) rfl (ev_tup (ea_cons (vr 3) (ea_cons (vr 5) ea_nil))) ?_ fun d hd => hs_nil ?_
        · rw [List.length_map, List.length_append, List.length_map]
          show _ ≤ 4096
          omega
        · subst hd
          rw [filter_step hj, if_pos hb, ← List.append_assoc, List.map_append (l₂ := [_])]
          rfl
      · refine hs_nil ?_
        rw [filter_step hj, if_neg (by rw [hb]; exact Bool.false_ne_true), List.append_nil]
        rfl
      · subst hr'
        exact hs_nilW [5, 6] rfl
    · refine hs_nilW [3, 4] ?_
      rw [flatMap_step hx, List.take_length]
      rfl
  · rw [List.take_length]
    exact hs_freeze 2 rfl (hs_ret (vr 2) rfl)

abbrev s_weeks_of : Stmt := topS 20
abbrev n_weeks_of : List Str := ["wishes", "item", "wish"]
theorem sc_weeks_of : FnScope n_weeks_of ["wishes", "item"] (defScope s_weeks_of) := ⟨rfl, rfl, rfl, by decide +kernel, rfl, by decide +kernel, by decide +kernel⟩
theorem d_weeks_of {f fd} (A : DefAt K mg "weeks_of" s_weeks_of ["wishes", "item"] f fd) (B : Bt mg) : Def P w K mg base 1 "weeks_of" ["wishes", "item"] c_weeks_of := by
  refine def_mk A sc_weeks_of (fun _ => rfl) fun ⟨ws, item⟩ _ cdv Ar outer s H E hr => ?_
  show HSs _ _ [.dat (eLW ws), .dat (.int item), .un] _
  exact hs_ret (ev_sum rfl (by rfl) B.sum (ev_lcE (enc' := PyData.int) (f := fun (w : Wish) => w.last - w.first + 1) (g := fun w => decide (w.item = item)) rfl sc_weeks_of.nd
    (Lc.mk1 [("wish", 2)] (fun w => [.dat (eLW ws), .dat (.int item), .dat (eW w)]) (ei_list (vr 0)) (blkOk_by (N := n_weeks_of) (sc := defScope s_weeks_of) (by decide +kernel)) rfl
      (fun w _ s H C cl fp => eg_name 2 sc_weeks_of.nd) (fun _ _ => rfl) (fun _ _ => rfl)
      (fun w _ s H C cl fp => pts_one (et_eq hr (ev_ix (vr 2) ev_int rfl) (vr 1) rfl rfl (eqI _ _)))
      (fun w _ _ s H C cl fp => ev_add (ev_sub (ev_ix (vr 2) ev_int rfl) (ev_ix (vr 2) ev_int rfl)) ev_int)))) rfl

abbrev s_bleached : Stmt := topS 24
abbrev n_bleached : List Str := ["plan", "wishes", "item"]
theorem sc_bleached : FnScope n_bleached ["plan", "wishes"] (defScope s_bleached) := ⟨rfl, rfl, rfl, by decide +kernel, rfl, by decide +kernel, by decide +kernel⟩
theorem d_bleached {f fd} (A : DefAt K mg "bleached" s_bleached ["plan", "wishes"] f fd) (B : Bt mg) (h_weeks_of : Def P w K mg base 1 "weeks_of" ["wishes", "item"] c_weeks_of) : Def P w K mg base 2 "bleached" ["plan", "wishes"] c_bleached := by
  refine def_mk A sc_bleached (fun _ => rfl) fun ⟨p, ws⟩ hp cdv Ar outer s H E hr => ?_
  show HSs _ _ [.dat (eP p), .dat (eLW ws), .un] _
  have h4 : p.objects.length ≤ 4 := hp.o4
  have eL : ∀ n : Nat, ((n : Int)).toNat = n := fun n => by simp
  refine hs_ret (ev_lcE (enc' := PyData.int) (f := fun (i : Int) => i) (g := fun i => decide ((p.obj i).light < weeksOf ws i)) (xs := rangeD 0 p.objects.length) (enc := PyData.int) rfl sc_bleached.nd
    (Lc.mk1 [("item", 2)] (fun i => [.dat (eP p), .dat (eLW ws), .dat (.int i)]) (ei_eq (ei_range1 (n := (p.objects.length : Int)) (by rfl) B.range (ev_eq' (ev_lenT (by rfl) B.len (ev_ix (vr 0) ev_int rfl)) (by rw [List.length_map]))) (by rw [eL])) (blkOk_by (N := n_bleached) (sc := defScope s_bleached) (by decide +kernel)) rfl
      (fun i _ s H C cl fp => eg_name 2 sc_bleached.nd) (fun _ _ => rfl) (fun _ _ => rfl)
      (fun i hi s H C cl fp => pts_one (et_gt (ev_call h_weeks_of (ws, i) hr (by rfl) (ea_cons (vr 1) (ea_cons (vr 2) ea_nil)) trivial) (ev_ix (ev_ix (ev_ix (vr 0) ev_int rfl) (vr 2) (p.at_obj (rangeD_mem.mp hi).1 (by have := (rangeD_mem.mp hi).2; omega))) ev_int rfl)))
      (fun i _ _ s H C cl fp => vr 2))) ?_
  show PyData.list _ = _
  rw [List.map_id']
  rfl

abbrev s_value_at : Stmt := topS 21
abbrev n_value_at : List Str := ["plan", "wishes", "house", "week", "wish", "there"]
theorem sc_value_at : FnScope n_value_at ["plan", "wishes", "house", "week"] (defScope s_value_at) := ⟨rfl, rfl, rfl, by decide +kernel, rfl, by decide +kernel, by decide +kernel⟩
theorem d_value_at {f fd} (A : DefAt K mg "value_at" s_value_at ["plan", "wishes", "house", "week"] f fd) (B : Bt mg) : Def P w K mg base 1 "value_at" ["plan", "wishes", "house", "week"] c_value_at := by
  refine def_mk A sc_value_at (fun _ => rfl) fun ⟨p, ws, h, k⟩ hp cdv Ar outer s H E hr => ?_
  show HSs _ _ [.dat (eP p), .dat (eLW ws), .dat (.int h), .dat (.int k), .un, .un] _
  refine hs_setLc (i := 5) rfl sc_value_at.nd rfl rfl rfl (sw_true rfl rfl rfl (by decide +kernel))
    (Lc.mk1 (enc := eW) (xs := ws) (f := fun w => eW w) (g := fun w => decide (w.house = h) && (decide (w.first ≤ k) && decide (k ≤ w.last))) [("wish", 4)] (fun w => [.dat (eP p), .dat (eLW ws), .dat (.int h), .dat (.int k), .dat (eW w), .un]) (ei_list (vr 1)) (blkOk_by (N := n_value_at) (sc := defScope s_value_at) (by decide +kernel)) rfl
      (fun w _ s H C cl fp => eg_name 4 sc_value_at.nd) (fun _ _ => rfl) (fun _ _ => rfl)
      (fun w _ s H C cl fp => pts_one (PW.pt (ew_and (et_eq hr (ev_ix (vr 4) ev_int rfl) (vr 2) rfl rfl (eqI _ _)) fun _ => ew_and1 (et_lele (ev_ix (vr 4) ev_int rfl) (vr 3) (ev_ix (vr 4) ev_int rfl)))))
      (fun w _ _ s H C cl fp => vr 4)) fun ds es e he => ?_
  have e2 : es = (thereIn ws h k).map eW := by rw [← lc_end es ⟨ds, e, he⟩]; rfl
  subst e2
  show HSs _ _ [.dat (eP p), .dat (eLW ws), .dat (.int h), .dat (.int k), .un, .dat (eLW (thereIn ws h k))] _
  exact hs_ret (ev_sum rfl (by rfl) B.sum (ev_lcE0 (enc' := PyData.int) (f := fun (w : Wish) => (p.obj w.item).value) rfl sc_value_at.nd
    (Lc.mk1 [("wish", 4)] (fun w => [.dat (eP p), .dat (eLW ws), .dat (.int h), .dat (.int k), .dat (eW w), .dat (eLW (thereIn ws h k))]) (ei_list (vr 5)) (blkOk_by (N := n_value_at) (sc := defScope s_value_at) (by decide +kernel)) rfl
      (fun w _ s H C cl fp => eg_name 4 sc_value_at.nd) (fun _ _ => rfl) (fun _ _ => rfl)
      (fun w _ s H C cl fp => pts_yes)
      (fun w hw _ s H C cl fp => ev_ix (ev_ix (ev_ix (vr 0) ev_int rfl) (ev_ix (vr 4) ev_int rfl) (p.at_obj (hp.it w (List.mem_filter.mp hw).1).1 (hp.it w (List.mem_filter.mp hw).1).2)) ev_int rfl)))) rfl

abbrev s_are_good : Stmt := topS 25
abbrev n_are_good : List Str := ["plan", "wishes", "house", "limit", "wish", "weeks", "week"]
theorem sc_are_good : FnScope n_are_good ["plan", "wishes"] (defScope s_are_good) := ⟨rfl, rfl, rfl, by decide +kernel, rfl, by decide +kernel, by decide +kernel⟩
theorem d_are_good {f fd} (A : DefAt K mg "are_good" s_are_good ["plan", "wishes"] f fd) (B : Bt mg) (h_tired : Def P w K mg base 2 "tired" ["plan", "wishes"] c_tired) (h_bleached : Def P w K mg base 2 "bleached" ["plan", "wishes"] c_bleached) (h_value_at : Def P w K mg base 1 "value_at" ["plan", "wishes", "house", "week"] c_value_at) : Def P w K mg base 3 "are_good" ["plan", "wishes"] c_are_good := by
  refine def_mk A sc_are_good (fun _ => rfl) fun ⟨p, ws⟩ ⟨hp, hw⟩ cdv Ar outer s H E hr => ?_
  show HSs _ _ [.dat (eP p), .dat (eLW ws), .un, .un, .un, .un, .un] _
  have ne : ∀ ds : List PyData, (!PyData.eqv (.list ds) (.list [])) = !ds.isEmpty := fun ds => by rw [eqv_lnil]
  refine hs_if0 (b := !(tired p ws).isEmpty || !(bleached p ws).isEmpty) (et_or _ _ (et_ne hr (ev_call h_tired (p, ws) hr (by rfl) (ea_cons (vr 0) (ea_cons (vr 1) ea_nil)) hw) (ev_lst ea_nil) ((en_lst en_II).ok _) rfl (by rw [ne, List.isEmpty_map])) fun _ => ew_or1 (et_ne hr (ev_call h_bleached (p, ws) hr (by rfl) (ea_cons (vr 0) (ea_cons (vr 1) ea_nil)) hp) (ev_lst ea_nil) ((en_lst en_int).ok _) rfl (by rw [ne, List.isEmpty_map]))) (fun h0 => hs_ret ev_bl ?_) fun h0 => ?_
  · show PyData.bool (areGood p ws) = _
    unfold areGood
    rw [h0]; rfl
  · refine hs_for (E := Eq (p.houses.zipIdx.map fun x => PyData.tuple [.int (x.2 : Nat), .int x.1])) (fun _ i r => r = [.dat (eP p), .dat (eLW ws), .un, .un, .un, .un, .un] ∧ ((p.houses.zipIdx.take i).all fun x => !houseBad p ws x.1 x.2) = true) (fun _ => False) PassesOwn.never rfl (ei_eq (ei_enumT (by rfl) B.enumerate (ev_ix (vr 0) ev_int rfl)) (enumD_map PyData.int p.houses)) (fun _ _ => ⟨rfl, rfl⟩) (fun ds i d ρ1 hE hd ⟨hr1, hiv⟩ => ?_) (fun ds ρ1 hE ⟨hr1, hiv⟩ => ?_) (fun _ z => z.elim)
    · subst hE; subst hr1
      obtain ⟨x, hx, rfl⟩ := map_get hd
      obtain ⟨hw', hi⟩ := zipIdx_get hx
      obtain ⟨l, i'⟩ := x
      subst hi
      refine ⟨[.dat (eP p), .dat (eLW ws), .dat (.int (i' : Nat)), .dat (.int l), .un, .un, .un], [2, 3], eg_tup rfl (.cons (eg_name 2 sc_are_good.nd) (.cons (eg_name 3 sc_are_good.nd) .nil rfl) rfl), ?_⟩
      refine hs_setLc (i := 5) rfl sc_are_good.nd rfl rfl rfl (sw_true rfl rfl rfl (by decide +kernel))
        (Lc.mk1 (enc := eW) (xs := ws) (f := fun w => PyData.int w.first) (g := fun w => decide (w.house = (i' : Int))) [("wish", 4)] (fun w => [.dat (eP p), .dat (eLW ws), .dat (.int (i' : Nat)), .dat (.int l), .dat (eW w), .un, .un]) (ei_list (vr 1)) (blkOk_by (N := n_are_good) (sc := defScope s_are_good) (by decide +kernel)) rfl
          (fun w _ s H C cl fp => eg_name 4 sc_are_good.nd) (fun _ _ => rfl) (fun _ _ => rfl)
          (fun w _ s H C cl fp => pts_one (et_eq hr (ev_ix (vr 4) ev_int rfl) (vr 2) rfl rfl (eqI _ _)))
          (fun w _ _ s H C cl fp => ev_ix (vr 4) ev_int rfl)) fun ds es e he => ?_
      have e2 : es = ((ws.filter fun w => decide (w.house = (i' : Int))).map fun w => w.first).map PyData.int := lc_is e he
      subst e2
      generalize hks : ((ws.filter fun w => decide (w.house = (i' : Int))).map fun w => w.first) = ks
      show HSs _ _ [.dat (eP p), .dat (eLW ws), .dat (.int (i' : Nat)), .dat (.int l), .un, .dat (.list (ks.map PyData.int)), .un] _
      refine hs_if0 (b := houseBad p ws l i') (et_eq' (et_val (ev_any rfl (by rfl) B.any (ev_lcE0 (xs := ks) (enc := PyData.int) (enc' := PyData.bool) (f := fun k => decide (l < valueAt p ws i' k)) rfl sc_are_good.nd
        (Lc.mk1 [("week", 6)] (fun k => [.dat (eP p), .dat (eLW ws), .dat (.int (i' : Nat)), .dat (.int l), .un, .dat (.list (ks.map PyData.int)), .dat (.int k)]) (ei_list (vr 5)) (blkOk_by (N := n_are_good) (sc := defScope s_are_good) (by decide +kernel)) rfl
          (fun k _ s H C cl fp => eg_name 6 sc_are_good.nd) (fun _ _ => rfl) (fun _ _ => rfl) (fun k _ s H C cl fp => pts_yes)
          (fun k _ _ s H C cl fp => ev_gt (ev_call h_value_at (p, ws, (i' : Int), k) hr (by rfl) (ea_cons (vr 0) (ea_cons (vr 1) (ea_cons (vr 2) (ea_cons (vr 6) ea_nil)))) hw) (vr 3)))))) (by unfold houseBad; rw [hks, List.any_map, Function.id_comp])) (fun hb => hs_ret ev_bl ?_) (fun hb => hs_nilW [2, 3, 5] ?_)
      · show PyData.bool (areGood p ws) = _
        have hm : (l, i') ∈ p.houses.zipIdx := List.mem_of_getElem? hx
        have ha : (p.houses.zipIdx.all fun x => !houseBad p ws x.1 x.2) = false := by
          rw [List.all_eq_false]
          exact ⟨(l, i'), hm, by rw [hb]; decide⟩
        unfold areGood
        rw [ha, Bool.and_false]
      · refine ⟨rfl, ?_⟩
        rw [take_succ hx, List.all_append, hiv]
        simp [hb]
    · subst hE; subst hr1
      rw [List.length_map, List.take_length] at hiv
      refine hs_ret ev_bl ?_
      show PyData.bool (areGood p ws) = _
      unfold areGood
      rw [hiv, h0]; rfl

abbrev s_named : Stmt := topS 22
abbrev n_named : List Str := ["plan", "some", "number"]
theorem sc_named : FnScope n_named ["plan", "some"] (defScope s_named) := ⟨rfl, rfl, rfl, by decide +kernel, rfl, by decide +kernel, by decide +kernel⟩
theorem d_named {f fd} (A : DefAt K mg "named" s_named ["plan", "some"] f fd) (B : Bt mg) : Def P w K mg base 1 "named" ["plan", "some"] c_named := by
  refine def_mk A sc_named (fun _ => rfl) fun ⟨p, ns⟩ hp cdv Ar outer s H E hr => ?_
  show HSs _ _ [.dat (eP p), .dat (eT ns), .un] _
  exact hs_ret (ev_lcE0 (enc' := eW) (f := fun (x : Int) => p.wish x) rfl sc_named.nd
    (Lc.mk1 [("number", 2)] (fun x => [.dat (eP p), .dat (eT ns), .dat (.int x)]) (ei_tup (vr 1)) (blkOk_by (N := n_named) (sc := defScope s_named) (by decide +kernel)) rfl
      (fun x _ s H C cl fp => eg_name 2 sc_named.nd) (fun _ _ => rfl) (fun _ _ => rfl)
      (fun x _ s H C cl fp => pts_yes)
      (fun x hx _ s H C cl fp => ev_ix (ev_ix (vr 0) ev_int rfl) (vr 2) (p.at_wish (hp x hx).1 (hp x hx).2)))) rfl

abbrev s_check_good : Stmt := topS 30
abbrev n_check_good : List Str := ["plan", "some"]
theorem sc_check_good : FnScope n_check_good ["plan", "some"] (defScope s_check_good) := ⟨rfl, rfl, rfl, by decide +kernel, rfl, by decide +kernel, by decide +kernel⟩
theorem d_check_good {f fd} (A : DefAt K mg "check_good" s_check_good ["plan", "some"] f fd) (B : Bt mg) (h_are_good : Def P w K mg base 3 "are_good" ["plan", "wishes"] c_are_good) (h_named : Def P w K mg base 1 "named" ["plan", "some"] c_named) : Def P w K mg base 4 "check_good" ["plan", "some"] c_check_good := by
  refine def_mk A sc_check_good (fun _ => rfl) fun (⟨p, s⟩ : Plan × List Int) ⟨(hp : p.Ok), (hs : SomeOk p s), hg⟩ cdv Ar outer sh H E hr => ?_
  have hg' : good p s = true := hg
  show HSs _ _ [.dat (eP p), .dat (eT s)] _
  refine hs_if0 (b := false) (et_nt (et_val (ev_call h_are_good (p, named p s) hr (by rfl) (ea_cons (vr 0) (ea_cons (ev_call h_named (p, s) hr (by rfl) (ea_cons (vr 0) (ea_cons (vr 1) ea_nil)) hs.rng) ea_nil)) ⟨hp, hs.wsok hp⟩ (by show Eq (PyData.bool (areGood p (named p s))) = Eq (.bool true); rw [good_eq hp hs, hg'])))) (fun z => nomatch z) fun _ => hs_nil rfl

abbrev s_Desk_become : Stmt := inClass (topS 33) 1
abbrev n_Desk_become : List Str := ["self", "operation", "some"]
theorem sc_Desk_become : FnScope n_Desk_become ["self", "operation", "some"] (defScope s_Desk_become) := ⟨rfl, rfl, rfl, by decide +kernel, rfl, by decide +kernel, by decide +kernel⟩
theorem d_Desk_become {C : Addr} (T : DskT K C) {f fd} (A : MetAt K C "become" "Desk.become" s_Desk_become ["self", "operation", "some"] f fd) (B : Bt mg) : MetD P w K mg base 1 C "become" ["self", "operation", "some"] c_become := by
  refine ⟨f, fd, spD_mk A.fn sc_Desk_become (fun _ => rfl) fun (⟨⟨p, s, dn, un⟩, op, s'⟩ : DA × Op × List Int) hl0 x l u cdv Ar outer sh H E hr => ?_, A.at_, A.kw⟩
  show HSs _ _ [.mt (dskM C x l u (dsk p s dn un)), .dat (eOp op), .dat (eT s')] _
  have hl : dn.length + 1 ≤ big := hl0
  refine hs_doneAppend (D := dsk p s dn un) T 0 (d := eEnt (op, s)) (ev_tup (ea_cons (vr 1) (ea_cons (ev_someM T 0) ea_nil))) (by show (dn.map eEnt).length + 1 ≤ big; rw [List.length_map]; exact hl) ?_
  refine hs_fldUndone T 0 fun u' => ?_
  refine hs_fldSome T 0 (d := eT s') (vr 2) ?_
  refine hs_ret (ev_lenT (by rfl) B.len (vr 2)) ⟨by rw [List.length_map]; rfl, l, u', ?_⟩
  exact congrArg (fun z => some (SD.mt (dskM C x l u' ⟨eP p, eT s', z, []⟩))) (show dn.map eEnt ++ [eEnt (op, s)] = (dn ++ [(op, s)]).map eEnt by rw [List.map_append]; rfl)

abbrev s_Desk_grant : Stmt := inClass (topS 33) 2
abbrev n_Desk_grant : List Str := ["self", "wish", "some"]
theorem sc_Desk_grant : FnScope n_Desk_grant ["self", "wish"] (defScope s_Desk_grant) := ⟨rfl, rfl, rfl, by decide +kernel, rfl, by decide +kernel, by decide +kernel⟩
theorem d_Desk_grant {C : Addr} (T : DskT K C) {f fd} (A : MetAt K C "grant" "Desk.grant" s_Desk_grant ["self", "wish"] f fd) (B : Bt mg) (h_check_number : Def P w K mg base 2 "check_number" ["value", "low", "high"] c_check_number) (h_check_good : Def P w K mg base 4 "check_good" ["plan", "some"] c_check_good) (h_Desk_become : MetD P w K mg base 1 C "become" ["self", "operation", "some"] c_become) : MetD P w K mg base 5 C "grant" ["self", "wish"] c_grant := by
  refine ⟨f, fd, spD_mk A.fn sc_Desk_grant (fun _ => rfl) fun (⟨⟨p, s, dn, un⟩, w0⟩ : DA × Int) ⟨(hp : p.Ok), (hs : SomeOk p s), ⟨(l0 : 0 ≤ w0), (l1 : w0 < p.wishes.length)⟩, (hn : w0 ∉ s), (hg : good p (plus s w0) = true), (hl : dn.length + 1 ≤ big)⟩ x l u cdv Ar outer sh H E hr => ?_, A.at_, A.kw⟩
  have hsl := hs.len
  have hw8 := hp.w8
  show HSs _ _ [.mt (dskM C x l u (dsk p s dn un)), .dat (.int w0), .un] _
  refine hs_dropN (ev_call h_check_number (w0, 0, (p.wishes.length : Int) - 1) hr (by rfl) (ea_cons (vr 1) (ea_cons ev_int (ea_cons (ev_sub (ev_eq' (ev_lenT (by rfl) B.len (ev_ix (ev_planM T 0) ev_int rfl)) (by rw [List.length_map])) ev_int) ea_nil))) ⟨l0, by show w0 ≤ (p.wishes.length : Int) - 1; omega⟩) ?_
  refine hs_if0 (b := false) (et_eq' (et_inT hr (vr 1) (ev_someM T 0) (en_int.ok _) (en_T.ok s) (inD_map en_int w0 s)) (decide_eq_false hn)) (fun z => nomatch z) fun _ => ?_
  refine hs_set (i := 2) (d := eT (plus s w0)) sc_Desk_grant.nd rfl (by first | exact Or.inl rfl | exact Or.inr rfl) rfl (ev_tupleL (ds := (plus s w0).map PyData.int) (by rfl) B.tuple (ev_eq' (ev_sortedT (ds := (s ++ [w0]).map PyData.int) hr (by rfl) B.sorted (ev_eq' (ev_catT (ev_someM T 0) (ev_tup (ea_cons (vr 1) ea_nil)) (by rw [List.length_map]; show s.length + 1 ≤ 4096; omega)) (by rw [List.map_append]; rfl)) (srt_ints _)) (congrArg PyData.list (sort_ints _)))) ?_
  show HSs _ _ [.mt (dskM C x l u (dsk p s dn un)), .dat (.int w0), .dat (eT (plus s w0))] _
  refine hs_dropN (ev_call h_check_good (p, plus s w0) hr (by rfl) (ea_cons (ev_planM T 0) (ea_cons (vr 2) ea_nil)) ⟨hp, plus_some hs l0 l1 hn, hg⟩) ?_
  refine hs_retS (evs_meth (x := x) h_Desk_become 0 ((p, s, dn, un), (true, w0), plus s w0) hr T (ea_cons (ev_tup (ea_cons ev_str (ea_cons (vr 1) ea_nil))) (ea_cons (vr 2) ea_nil)) hl) fun r ⟨l', u', e⟩ => ?_
  subst e
  exact ⟨rfl, l', u', rfl⟩

abbrev s_Desk_refuse : Stmt := inClass (topS 33) 3
abbrev n_Desk_refuse : List Str := ["self", "wish", "one"]
theorem sc_Desk_refuse : FnScope n_Desk_refuse ["self", "wish"] (defScope s_Desk_refuse) := ⟨rfl, rfl, rfl, by decide +kernel, rfl, by decide +kernel, by decide +kernel⟩
theorem d_Desk_refuse {C : Addr} (T : DskT K C) {f fd} (A : MetAt K C "refuse" "Desk.refuse" s_Desk_refuse ["self", "wish"] f fd) (B : Bt mg) (h_check_number : Def P w K mg base 2 "check_number" ["value", "low", "high"] c_check_number) (h_Desk_become : MetD P w K mg base 1 C "become" ["self", "operation", "some"] c_become) : MetD P w K mg base 3 C "refuse" ["self", "wish"] c_refuse := by
  refine ⟨f, fd, spD_mk A.fn sc_Desk_refuse (fun _ => rfl) fun (⟨⟨p, s, dn, un⟩, w0⟩ : DA × Int) ⟨(hp : p.Ok), (hs : SomeOk p s), (hn : w0 ∈ s), (hl : dn.length + 1 ≤ big)⟩ x l u cdv Ar outer sh H E hr => ?_, A.at_, A.kw⟩
  have hsl := hs.len
  have hw8 := hp.w8
  have l0 := hs.lo w0 hn
  have l1 := hs.hi w0 hn
  show HSs _ _ [.mt (dskM C x l u (dsk p s dn un)), .dat (.int w0), .un] _
  refine hs_dropN (ev_call h_check_number (w0, 0, (p.wishes.length : Int) - 1) hr (by rfl) (ea_cons (vr 1) (ea_cons ev_int (ea_cons (ev_sub (ev_eq' (ev_lenT (by rfl) B.len (ev_ix (ev_planM T 0) ev_int rfl)) (by rw [List.length_map])) ev_int) ea_nil))) ⟨l0, by show w0 ≤ (p.wishes.length : Int) - 1; omega⟩) ?_
  refine hs_if0 (b := false) (et_eq' (et_ninT hr (vr 1) (ev_someM T 0) (en_int.ok _) (en_T.ok s) (congrArg _ (inD_map en_int w0 s))) (by simp [hn])) (fun z => nomatch z) fun _ => ?_
  refine hs_retS (evs_meth (x := x) h_Desk_become 0 ((p, s, dn, un), (false, w0), minus s w0) hr T (ea_cons (ev_tup (ea_cons ev_str (ea_cons (vr 1) ea_nil))) (ea_cons (ev_tupleL (ds := (minus s w0).map PyData.int) (by rfl) B.tuple (ev_eq' (ev_lcE (enc' := PyData.int) (f := fun (y : Int) => y) (g := fun y => decide (y ≠ w0)) (xs := s) rfl sc_Desk_refuse.nd
    (Lc.mk1 (enc := PyData.int) [("one", 2)] (fun y => [.mt (dskM C x l u (dsk p s dn un)), .dat (.int w0), .dat (.int y)]) (ei_tup (ev_someM T 0)) (blkOk_by (N := n_Desk_refuse) (sc := defScope s_Desk_refuse) (by decide +kernel)) rfl
      (fun x _ s H C cl fp => eg_name 2 sc_Desk_refuse.nd) (fun _ _ => rfl) (fun _ _ => rfl)
      (fun y _ s' H C cl fp => pts_one (et_ne hr (vr 2) (vr 1) (en_int.ok _) (en_int.ok _) (by rw [eqI]; simp)))
      (fun y _ _ s' H C cl fp => vr 2))) (by rw [List.map_id']; rfl))) ea_nil)) hl) fun r ⟨l', u', e⟩ => ?_
  subst e
  exact ⟨rfl, l', u', rfl⟩

abbrev s_law_call : Stmt := topS 43
abbrev n_law_call : List Str := ["_law_desk", "_law_operation_here"]
theorem sc_law_call : FnScope n_law_call ["_law_desk", "_law_operation_here"] (defScope s_law_call) := ⟨rfl, rfl, rfl, by decide +kernel, rfl, by decide +kernel, by decide +kernel⟩
theorem d_law_call {C : Addr} (T : DskT K C) {f fd} (A : DefAt K mg "_law_call" s_law_call ["_law_desk", "_law_operation_here"] f fd) (B : Bt mg) (h_Desk_grant : MetD P w K mg base 5 C "grant" ["self", "wish"] c_grant) (h_Desk_refuse : MetD P w K mg base 3 C "refuse" ["self", "wish"] c_refuse) : DefD P w K mg base 6 C "_law_call" ["_law_desk", "_law_operation_here"] c_law_call := by
  refine ⟨f, fd, spD_mk A.fn sc_law_call (fun _ => rfl) fun (⟨⟨p, s, dn, un⟩, g, w0⟩ : DA × Op) ⟨(hp : p.Ok), (hs : SomeOk p s), (o0 : 0 ≤ w0), (hg : opG p s (g, w0)), (hl : dn.length + 1 ≤ big)⟩ x l u cdv Ar outer sh H E hr => ?_, A.at_, A.fn.kp, A.kw⟩
  have he := (opO_val hg).2
  obtain ⟨h1, h2⟩ := hg
  show HSs _ _ [.mt (dskM C x l u (dsk p s dn un)), .dat (eOp (g, w0))] _
  refine hs_if0 (b := g) (et_eq hr (ev_ix (vr 1) ev_int rfl) ev_str (shp_gr g).ok (shp_gr true).ok (by rw [show (PyData.str "grant") = .str (if true = true then "grant" else "refuse") from rfl, eqv_gr]; cases g <;> rfl)) (fun hg => ?_) fun hg => ?_
  · have hg' : g = true := hg
    subst hg'
    rw [if_pos rfl] at h2 he
    refine hs_retS (evs_meth (c := c_grant) (x := x) h_Desk_grant 0 ((p, s, dn, un), w0) hr T (ea_cons (ev_ix (vr 1) ev_int rfl) ea_nil) ⟨hp, hs, ⟨o0, h1⟩, h2.1, h2.2, hl⟩) fun r ⟨l', u', e⟩ => ?_
    subst e
    refine ⟨?_, l', u', ?_⟩
    · show _ = PyData.int ((opS p s (true, w0)).length : Nat); rw [he]; rfl
    · show _ = some (SD.mt (dskM C x l' u' (dsk p (opS p s (true, w0)) _ _))); rw [he]; rfl
  · have hg' : g = false := hg
    subst hg'
    rw [if_neg Bool.false_ne_true] at h2 he
    refine hs_retS (evs_meth (c := c_refuse) (x := x) h_Desk_refuse 0 ((p, s, dn, un), w0) hr T (ea_cons (ev_ix (vr 1) ev_int rfl) ea_nil) ⟨hp, hs, h2, hl⟩) fun r ⟨l', u', e⟩ => ?_
    subst e
    refine ⟨?_, l', u', ?_⟩
    · show _ = PyData.int ((opS p s (false, w0)).length : Nat); rw [he]; rfl
    · show _ = some (SD.mt (dskM C x l' u' (dsk p (opS p s (false, w0)) _ _))); rw [he]; rfl

theorem d_check_number_x {f fd} (A : DefAt K mg "check_number" s_check_number ["value", "low", "high"] f fd) (B : Bt mg) (M : ErrM K mg cl CS) (h_is_between : Def P w K mg base 1 "is_between" ["value", "low", "high"] c_is_between) : DefX P w K mg base 2 "check_number" ["value", "low", "high"] cl x_check_number := by
  refine defX_mk A sc_check_number (fun _ => rfl) fun (⟨d, lo, hi⟩ : PyData × Int × Int) hd cdv Ar outer s H E hr tk px => ?_
  exact he_if0 (b := true) (et_eq' (et_not (et_val (ev_call h_is_between (d, lo, hi) hr (by rfl) (ea_cons (vr 0) (ea_cons (vr 1) (ea_cons (vr 2) ea_nil))) trivial))) (by rw [show isBetween d lo hi = false from hd]; rfl)) (fun _ => he_raise M.t .number (M.me .number) rfl tk (by rfl) rfl) (fun z => nomatch z)

theorem d_check_good_x {f fd} (A : DefAt K mg "check_good" s_check_good ["plan", "some"] f fd) (B : Bt mg) (M : ErrM K mg cl CS) (h_are_good : Def P w K mg base 3 "are_good" ["plan", "wishes"] c_are_good) (h_named : Def P w K mg base 1 "named" ["plan", "some"] c_named) : DefX P w K mg base 4 "check_good" ["plan", "some"] cl x_check_good := by
  refine defX_mk A sc_check_good (fun _ => rfl) fun (⟨p, u⟩ : Plan × List Int) ⟨(hp : p.Ok), (hu : SomeOk p u), (hg : good p u = false)⟩ cdv Ar outer s H E hr tk px => ?_
  exact he_if0 (b := true) (et_eq' (et_not (et_val (ev_call h_are_good (p, named p u) hr (by rfl) (ea_cons (vr 0) (ea_cons (ev_call h_named (p, u) hr (by rfl) (ea_cons (vr 0) (ea_cons (vr 1) ea_nil)) hu.rng) ea_nil)) ⟨hp, hu.wsok hp⟩ (by show Eq (PyData.bool (areGood p (named p u))) = _; rw [good_eq hp hu])))) (by rw [hg]; rfl)) (fun _ => he_raise M.t .bad (M.me .bad) rfl tk (by rfl) rfl) (fun z => nomatch z)

theorem d_Desk_grant_x {C : Addr} (T : DskT K C) {f fd} (A : MetAt K C "grant" "Desk.grant" s_Desk_grant ["self", "wish"] f fd) (B : Bt mg) (M : ErrM K mg cl CS) (h_check_number : Def P w K mg base 2 "check_number" ["value", "low", "high"] c_check_number) (h_check_number_x : DefX P w K mg base 2 "check_number" ["value", "low", "high"] cl x_check_number) (h_check_good_x : DefX P w K mg base 4 "check_good" ["plan", "some"] cl x_check_good) : MetX P w K mg base 5 C "grant" ["self", "wish"] cl x_grant := by
  refine ⟨f, fd, spRX_mk A.fn sc_Desk_grant (fun _ => rfl) fun (⟨⟨p, s, dn, un⟩, n, k⟩ : DA × PyData × Ek) ⟨(hp : p.Ok), (hs : SomeOk p s), (hb : badOp p s true n k)⟩ cdv Ar outer sh H E hr tk px => ?_, A.at_, A.kw⟩
  have hsl := hs.len
  have hw8 := hp.w8
  show HEs _ _ _ [.mt (dskR C (dsk p s dn un)), .dat n, .un] _ _ _
  rcases hb with ⟨hk, hb⟩ | ⟨w0, hn, ⟨l0, l1⟩, hb⟩
  · exact he_call h_check_number_x (n, 0, (p.wishes.length : Int) - 1) hr px (by rfl) (ea_cons (vr 1) (ea_cons ev_int (ea_cons (ev_sub (ev_eq' (ev_lenT (by rfl) B.len (ev_ix (ev_planR T 0) ev_int rfl)) (by rw [List.length_map])) ev_int) ea_nil))) hb hk.symm
  obtain rfl : n = .int w0 := hn
  refine he_drop (ev_call h_check_number (w0, 0, (p.wishes.length : Int) - 1) hr (by rfl) (ea_cons (vr 1) (ea_cons ev_int (ea_cons (ev_sub (ev_eq' (ev_lenT (by rfl) B.len (ev_ix (ev_planR T 0) ev_int rfl)) (by rw [List.length_map])) ev_int) ea_nil))) ⟨l0, by show w0 ≤ (p.wishes.length : Int) - 1; omega⟩) ?_
  rw [if_pos rfl] at hb
  refine he_if0 (b := decide (w0 ∈ s)) (et_inT hr (vr 1) (ev_someR T 0) (en_int.ok _) (en_T.ok s) (inD_map en_int w0 s)) (fun hm => ?_) fun hm => ?_
  · rcases hb with ⟨hk, _⟩ | ⟨_, hm', _⟩
    · exact he_raise M.t .already (M.me .already) rfl tk (by rfl) hk.symm
    · exact absurd (of_decide_eq_true hm) hm'
  · have hm' := of_decide_eq_false hm
    rcases hb with ⟨_, hm2⟩ | ⟨hk, _, hg⟩
    · exact absurd hm2 hm'
    refine he_set (i := 2) (d := eT (plus s w0)) sc_Desk_grant.nd rfl (by first | exact Or.inl rfl | exact Or.inr rfl) rfl (ev_tupleL (ds := (plus s w0).map PyData.int) (by rfl) B.tuple (ev_eq' (ev_sortedT (ds := (s ++ [w0]).map PyData.int) hr (by rfl) B.sorted (ev_eq' (ev_catT (ev_someR T 0) (ev_tup (ea_cons (vr 1) ea_nil)) (by rw [List.length_map]; show s.length + 1 ≤ 4096; omega)) (by rw [List.map_append]; rfl)) (srt_ints _)) (congrArg PyData.list (sort_ints _)))) ?_
    exact he_call h_check_good_x (p, plus s w0) hr px (by rfl) (ea_cons (ev_planR T 0) (ea_cons (vr 2) ea_nil)) ⟨hp, plus_some hs l0 l1 hm', hg⟩ hk.symm

theorem d_Desk_refuse_x {C : Addr} (T : DskT K C) {f fd} (A : MetAt K C "refuse" "Desk.refuse" s_Desk_refuse ["self", "wish"] f fd) (B : Bt mg) (M : ErrM K mg cl CS) (h_check_number : Def P w K mg base 2 "check_number" ["value", "low", "high"] c_check_number) (h_check_number_x : DefX P w K mg base 2 "check_number" ["value", "low", "high"] cl x_check_number) : MetX P w K mg base 3 C "refuse" ["self", "wish"] cl x_refuse := by
  refine ⟨f, fd, spRX_mk A.fn sc_Desk_refuse (fun _ => rfl) fun (⟨⟨p, s, dn, un⟩, n, k⟩ : DA × PyData × Ek) ⟨(hp : p.Ok), (hs : SomeOk p s), (hb : badOp p s false n k)⟩ cdv Ar outer sh H E hr tk px => ?_, A.at_, A.kw⟩
  show HEs _ _ _ [.mt (dskR C (dsk p s dn un)), .dat n, .un] _ _ _
  rcases hb with ⟨hk, hb⟩ | ⟨w0, hn, ⟨l0, l1⟩, hb⟩
  · exact he_call h_check_number_x (n, 0, (p.wishes.length : Int) - 1) hr px (by rfl) (ea_cons (vr 1) (ea_cons ev_int (ea_cons (ev_sub (ev_eq' (ev_lenT (by rfl) B.len (ev_ix (ev_planR T 0) ev_int rfl)) (by rw [List.length_map])) ev_int) ea_nil))) hb hk.symm
  obtain rfl : n = .int w0 := hn
  refine he_drop (ev_call h_check_number (w0, 0, (p.wishes.length : Int) - 1) hr (by rfl) (ea_cons (vr 1) (ea_cons ev_int (ea_cons (ev_sub (ev_eq' (ev_lenT (by rfl) B.len (ev_ix (ev_planR T 0) ev_int rfl)) (by rw [List.length_map])) ev_int) ea_nil))) ⟨l0, by show w0 ≤ (p.wishes.length : Int) - 1; omega⟩) ?_
  rw [if_neg Bool.false_ne_true] at hb
  obtain ⟨hk, hm⟩ := hb
  exact he_if0 (b := true) (et_eq' (et_ninT hr (vr 1) (ev_someR T 0) (en_int.ok _) (en_T.ok s) (congrArg _ (inD_map en_int w0 s))) (by simp [hm])) (fun _ => he_raise M.t .notyet (M.me .notyet) rfl tk (by rfl) hk.symm) (fun z => nomatch z)

theorem d_law_call_x {C : Addr} (T : DskT K C) {f fd} (A : DefAt K mg "_law_call" s_law_call ["_law_desk", "_law_operation_here"] f fd) (B : Bt mg) (M : ErrM K mg cl CS) (h_Desk_grant_x : MetX P w K mg base 5 C "grant" ["self", "wish"] cl x_grant) (h_Desk_refuse_x : MetX P w K mg base 3 C "refuse" ["self", "wish"] cl x_refuse) : DefRX P w K mg base 6 C "_law_call" ["_law_desk", "_law_operation_here"] cl x_law_call := by
  refine ⟨f, fd, spRX_mk A.fn sc_law_call (fun _ => rfl) fun (⟨⟨p, s, dn, un⟩, ⟨g, w0⟩, k⟩ : DA × Op × Ek) ⟨(hp : p.Ok), (hs : SomeOk p s), (hb : badOp p s g (.int w0) k)⟩ cdv Ar outer sh H E hr tk px => ?_, A.at_, A.fn.kp, A.kw⟩
  show HEs _ _ _ [.mt (dskR C (dsk p s dn un)), .dat (eOp (g, w0))] _ _ _
  refine he_if0 (b := g) (et_eq hr (ev_ix (vr 1) ev_int rfl) ev_str (shp_gr g).ok (shp_gr true).ok (by rw [show (PyData.str "grant") = .str (if true = true then "grant" else "refuse") from rfl, eqv_gr]; cases g <;> rfl)) (fun hg => ?_) fun hg => ?_
  · have hg' : g = true := hg
    subst hg'
    exact he_retX (q0 := k) (ex_methRX h_Desk_grant_x 0 ((p, s, dn, un), .int w0, k) hr px T (ea_cons (ev_ix (vr 1) ev_int rfl) ea_nil) ⟨hp, hs, hb⟩) rfl
  · have hg' : g = false := hg
    subst hg'
    exact he_retX (q0 := k) (ex_methRX h_Desk_refuse_x 0 ((p, s, dn, un), .int w0, k) hr px T (ea_cons (ev_ix (vr 1) ev_int rfl) ea_nil) ⟨hp, hs, hb⟩) rfl

abbrev s_Desk_granted : Stmt := inClass (topS 33) 6
abbrev n_Desk_granted : List Str := ["self"]
theorem sc_Desk_granted : FnScope n_Desk_granted ["self"] (defScope s_Desk_granted) := ⟨rfl, rfl, rfl, by decide +kernel, rfl, by decide +kernel, by decide +kernel⟩
theorem d_Desk_granted {C : Addr} (T : DskT K C) {f fd} (A : MetAt K C "granted" "Desk.granted" s_Desk_granted ["self"] f fd) (B : Bt mg) : MetR P w K mg base 1 C "granted" ["self"] c_granted := by
  refine ⟨f, fd, spR_mk A.fn sc_Desk_granted (fun _ => rfl) fun (⟨p, s, dn, un⟩ : DA) _ cdv Ar outer sh H E hr => ?_, A.at_, A.kw⟩
  show HSs _ _ [.mt (dskR C (dsk p s dn un))] _
  exact hs_ret (ev_someR T 0) rfl

abbrev s_Desk_history : Stmt := inClass (topS 33) 9
abbrev n_Desk_history : List Str := ["self", "operation", "before"]
theorem sc_Desk_history : FnScope n_Desk_history ["self"] (defScope s_Desk_history) := ⟨rfl, rfl, rfl, by decide +kernel, rfl, by decide +kernel, by decide +kernel⟩
theorem d_Desk_history {C : Addr} (T : DskT K C) {f fd} (A : MetAt K C "history" "Desk.history" s_Desk_history ["self"] f fd) (B : Bt mg) : MetR P w K mg base 1 C "history" ["self"] c_history := by
  refine ⟨f, fd, spR_mk A.fn sc_Desk_history (fun _ => rfl) fun (⟨p, s, dn, un⟩ : DA) _ cdv Ar outer sh H E hr => ?_, A.at_, A.kw⟩
  show HSs _ _ [.mt (dskR C (dsk p s dn un)), .un, .un] _
  refine hs_ret (ev_tupleL (ds := (dn.map fun (e : Ent) => e.1).map eOp) (by rfl) B.tuple (ev_lcE0 (enc' := eOp) (f := fun (e : Ent) => e.1) (xs := dn) rfl sc_Desk_history.nd
    (Lc.mk1 (enc := eEnt) [("operation", 1), ("before", 2)] (fun e => [.mt (dskR C (dsk p s dn un)), .dat (eOp e.1), .dat (eT e.2)]) (ei_list (ev_doneR T 0)) (blkOk_by (N := n_Desk_history) (sc := defScope s_Desk_history) (by decide +kernel)) rfl
      (fun x _ s H C cl fp => eg_tup rfl (.cons (eg_name 1 sc_Desk_history.nd) (.cons (eg_name 2 sc_Desk_history.nd) .nil rfl) rfl)) (fun _ _ => rfl) (fun _ _ => rfl) (fun _ _ s H C cl fp => pts_yes)
      (fun e _ _ s' H C cl fp => vr 1)))) ?_
  rw [List.map_map]; rfl

abbrev s_Desk___len__ : Stmt := inClass (topS 33) 11
abbrev n_Desk___len__ : List Str := ["self"]
theorem sc_Desk___len__ : FnScope n_Desk___len__ ["self"] (defScope s_Desk___len__) := ⟨rfl, rfl, rfl, by decide +kernel, rfl, by decide +kernel, by decide +kernel⟩
theorem d_Desk___len__ {C : Addr} (T : DskT K C) {f fd} (A : MetAt K C "__len__" "Desk.__len__" s_Desk___len__ ["self"] f fd) (B : Bt mg) : MetR P w K mg base 1 C "__len__" ["self"] c_len := by
  refine ⟨f, fd, spR_mk A.fn sc_Desk___len__ (fun _ => rfl) fun (⟨p, s, dn, un⟩ : DA) _ cdv Ar outer sh H E hr => ?_, A.at_, A.kw⟩
  show HSs _ _ [.mt (dskR C (dsk p s dn un))] _
  exact hs_ret (ev_eq' (db := .int (s.length : Nat)) (ev_lenT (by rfl) B.len (ev_someR T 0)) (by rw [List.length_map])) rfl

abbrev s_added_to : Stmt := topS 31
abbrev n_added_to : List Str := ["plan", "some", "number", "rows"]
theorem sc_added_to : FnScope n_added_to ["plan", "some"] (defScope s_added_to) := ⟨rfl, rfl, rfl, by decide +kernel, rfl, by decide +kernel, by decide +kernel⟩
theorem d_added_to {f fd} (A : DefAt K mg "added_to" s_added_to ["plan", "some"] f fd) (B : Bt mg) (h_are_good : Def P w K mg base 3 "are_good" ["plan", "wishes"] c_are_good) (h_named : Def P w K mg base 1 "named" ["plan", "some"] c_named) : Def P w K mg base 4 "added_to" ["plan", "some"] c_added_to := by
  refine def_mk A sc_added_to (fun _ => rfl) fun (⟨p, s⟩ : Plan × List Int) ⟨(hp : p.Ok), (hs : SomeOk p s)⟩ cdv Ar outer sh H E hr => ?_
  have hw8 := hp.w8
  have hl := hs.len
  show HSs _ _ [.dat (eP p), .dat (eT s), .un, .un] _
  refine hs_setLc (i := 3) rfl sc_added_to.nd rfl rfl rfl (sw_true rfl rfl rfl (by decide +kernel))
    (Lc.mk1 (enc := PyData.int) (xs := rangeD 0 p.wishes.length) (f := fun x => PyData.int x) (g := fun x => decide (x ∉ s)) [("number", 2)] (fun x => [.dat (eP p), .dat (eT s), .dat (.int x), .un]) (ei_eq (ei_range1 (n := (p.wishes.length : Int)) (by rfl) B.range (ev_eq' (ev_lenT (by rfl) B.len (ev_ix (vr 0) ev_int rfl)) (by rw [List.length_map])) (by omega) (by omega)) (by simp)) (blkOk_by (N := n_added_to) (sc := defScope s_added_to) (by decide +kernel)) rfl
      (fun x _ s H C cl fp => eg_name 2 sc_added_to.nd) (fun _ _ => rfl) (fun _ _ => rfl)
      (fun x _ s H C cl fp => pts_one (et_ninT hr (vr 2) (vr 1) (en_int.ok _) (en_T.ok _) (by rw [inD_map en_int]; rw [Bool.eq_iff_iff]; simp)))
      (fun x _ _ s' H C cl fp => vr 2)) fun ds es e he => ?_
  have e2 : es = (others p s).map PyData.int := (lc_end es ⟨ds, e, he⟩).symm
  subst e2
  show HSs _ _ [.dat (eP p), .dat (eT s), .un, .dat (.list ((others p s).map PyData.int))] _
  have hrng : ∀ x ∈ others p s, InRng p (s ++ [x]) := fun x hx y hy => by
    have := mem_others.mp hx
    rcases List.mem_append.mp hy with q | q
    · exact ⟨hs.lo y q, hs.hi y q⟩
    · rw [List.mem_singleton.mp q]; exact this.1
  refine hs_ret (ev_lcE (enc' := PyData.int) (f := fun (x : Int) => x) (g := fun x => areGood p (named p (s ++ [x]))) (xs := others p s) rfl sc_added_to.nd
    (Lc.mk1 (enc := PyData.int) [("number", 2)] (fun x => [.dat (eP p), .dat (eT s), .dat (.int x), .dat (.list ((others p s).map PyData.int))]) (ei_list (vr 3)) (blkOk_by (N := n_added_to) (sc := defScope s_added_to) (by decide +kernel)) rfl
      (fun x _ s H C cl fp => eg_name 2 sc_added_to.nd) (fun _ _ => rfl) (fun _ _ => rfl)
      (fun x hx s' H C cl fp => pts_one (et_val (ev_call h_are_good (p, named p (s ++ [x])) hr (by rfl) (ea_cons (vr 0) (ea_cons (ev_call h_named (p, s ++ [x]) hr (by rfl) (ea_cons (vr 0) (ea_cons (ev_eq' (ev_catT (vr 1) (ev_tup (ea_cons (vr 2) ea_nil)) ?_) ?_) ea_nil)) (hrng x hx)) ea_nil)) ⟨hp, named_ok hp (hrng x hx) ?_⟩)))
      (fun x _ _ s' H C cl fp => vr 2))) ?_
  · rw [List.length_map]; show s.length + 1 ≤ 4096; omega
  · show _ = eT (s ++ [x]); unfold eT; rw [List.map_append]; rfl
  · rw [List.length_append]; show s.length + 1 ≤ 16; omega
  · rw [List.map_id']; rfl

abbrev s_Desk_options : Stmt := inClass (topS 33) 7
abbrev n_Desk_options : List Str := ["self"]
theorem sc_Desk_options : FnScope n_Desk_options ["self"] (defScope s_Desk_options) := ⟨rfl, rfl, rfl, by decide +kernel, rfl, by decide +kernel, by decide +kernel⟩
theorem d_Desk_options {C : Addr} (T : DskT K C) {f fd} (A : MetAt K C "options" "Desk.options" s_Desk_options ["self"] f fd) (B : Bt mg) (h_added_to : Def P w K mg base 4 "added_to" ["plan", "some"] c_added_to) : MetR P w K mg base 5 C "options" ["self"] c_options := by
  refine ⟨f, fd, spR_mk A.fn sc_Desk_options (fun _ => rfl) fun (⟨p, s, dn, un⟩ : DA) ⟨(hp : p.Ok), (hs : SomeOk p s)⟩ cdv Ar outer sh H E hr => ?_, A.at_, A.kw⟩
  show HSs _ _ [.mt (dskR C (dsk p s dn un))] _
  exact hs_ret (ev_tupleL (by rfl) B.tuple (ev_call h_added_to (p, s) hr (by rfl) (ea_cons (ev_planR T 0) (ea_cons (ev_someR T 0) ea_nil)) ⟨hp, hs⟩)) rfl

abbrev s_subsets_of : Stmt := topS 27
abbrev n_subsets_of : List Str := ["many", "rows", "one", "row"]
theorem sc_subsets_of : FnScope n_subsets_of ["many"] (defScope s_subsets_of) := ⟨rfl, rfl, rfl, by decide +kernel, rfl, by decide +kernel, by decide +kernel⟩
theorem d_subsets_of {f fd} (A : DefAt K mg "subsets_of" s_subsets_of ["many"] f fd) (B : Bt mg) : Def P w K mg base 1 "subsets_of" ["many"] c_subsets_of := by
  refine def_mk A sc_subsets_of (fun _ => rfl) fun (n : Nat) (hn : n ≤ 8) cdv Ar outer s H E hr => ?_
  show HSs _ _ [.dat (.int n), .un, .un, .un] _
  refine hs_set (i := 1) (d := eLT [[]]) sc_subsets_of.nd rfl (Or.inl rfl) rfl (ev_lst (ds := [.tuple []]) (ea_cons (ev_tup (ds := []) ea_nil) ea_nil)) ?_
  refine hs_forD (xs := rangeD 0 n) (enc := PyData.int) (fun i => [.dat (.int n), .dat (eLT (subs i)), .un, .un]) PassesOwn.never rfl (ei_eq (ei_range1 (n := (n : Int)) (by rfl) B.range (vr 0) (by omega) (by omega)) (by simp)) rfl (fun i x hx => ?_) ?_
  · obtain ⟨rfl, hi⟩ := rangeD_get hx
    refine ⟨_, [2], eg_name 2 sc_subsets_of.nd, ?_⟩
    have hl : (subs i).length ≤ 256 := by rw [subs_len]; exact (Nat.pow_le_pow_right (n := 2) (by decide) (show i ≤ 8 by omega))
    refine hs_set (i := 1) (d := eLT (subs (i + 1))) sc_subsets_of.nd rfl (Or.inl rfl) rfl (ev_eq' (ev_catL (vr 1) (ev_lcE0 (enc' := eT) (f := fun (r : List Int) => r ++ [(i : Int)]) (xs := subs i) rfl sc_subsets_of.nd
      (Lc.mk1 (enc := eT) [("row", 3)] (fun r => [.dat (.int n), .dat (eLT (subs i)), .dat (.int (i : Nat)), .dat (eT r)]) (ei_list (vr 1)) (blkOk_by (N := n_subsets_of) (sc := defScope s_subsets_of) (by decide +kernel)) rfl
        (fun x _ s H C cl fp => eg_name 3 sc_subsets_of.nd) (fun _ _ => rfl) (fun _ _ => rfl)
        (fun x _ s H C cl fp => pts_yes)
        (fun r hr _ s H C cl fp => ev_eq' (ev_catT (vr 3) (ev_tup (ea_cons (vr 2) ea_nil)) ?_) ?_))) ?_) ?_) ?_
    · have h1 := mem_subs.mp hr
      have h2 := (sub_of_mem h1.1 ((asc_iff _).mpr (asc_range 0 i)) fun x hx => rangeD_mem.mpr (by have := h1.2 x hx; omega)).length_le
      rw [rangeD_len] at h2
      rw [List.length_map]
      show _ ≤ 4096
      simp only [List.length_cons, List.length_nil]
      omega
    · show _ = eT (r ++ [(i : Int)])
      unfold eT
      rw [List.map_append]; rfl
    · simp only [List.length_map]
      show _ ≤ 4096
      omega
    · rw [← List.map_append]; rfl
    · exact hs_nilW [2] rfl
  · rw [rangeD_len]
    exact hs_ret (vr 1) rfl

abbrev s_good_ones : Stmt := topS 28
abbrev n_good_ones : List Str := ["plan", "row"]
theorem sc_good_ones : FnScope n_good_ones ["plan"] (defScope s_good_ones) := ⟨rfl, rfl, rfl, by decide +kernel, rfl, by decide +kernel, by decide +kernel⟩
theorem d_good_ones {f fd} (A : DefAt K mg "good_ones" s_good_ones ["plan"] f fd) (B : Bt mg) (h_subsets_of : Def P w K mg base 1 "subsets_of" ["many"] c_subsets_of) (h_are_good : Def P w K mg base 3 "are_good" ["plan", "wishes"] c_are_good) (h_named : Def P w K mg base 1 "named" ["plan", "some"] c_named) : Def P w K mg base 4 "good_ones" ["plan"] c_good_ones := by
  refine def_mk A sc_good_ones (fun _ => rfl) fun (p : Plan) (hp : p.Ok) cdv Ar outer s H E hr => ?_
  show HSs _ _ [.dat (eP p), .un] _
  refine hs_ret (ev_lcE (enc' := eT) (f := fun (r : List Int) => r) (g := good p) (xs := subs p.wishes.length) rfl sc_good_ones.nd
    (Lc.mk1 (enc := eT) [("row", 1)] (fun r => [.dat (eP p), .dat (eT r)]) (ei_list (ev_call h_subsets_of p.wishes.length hr (by rfl) (ea_cons (ev_eq' (ev_lenT (by rfl) B.len (ev_ix (vr 0) ev_int rfl)) (by rw [List.length_map])) ea_nil) hp.w8)) (blkOk_by (N := n_good_ones) (sc := defScope s_good_ones) (by decide +kernel)) rfl
      (fun x _ s H C cl fp => eg_name 1 sc_good_ones.nd) (fun _ _ => rfl) (fun _ _ => rfl)
      (fun r hm s H C cl fp => pts_one (et_val (ev_call h_are_good (p, named p r) hr (by rfl) (ea_cons (vr 0) (ea_cons (ev_call h_named (p, r) hr (by rfl) (ea_cons (vr 0) (ea_cons (vr 1) ea_nil)) (subs_some.mp hm).rng) ea_nil)) ⟨hp, (subs_some.mp hm).wsok hp⟩ (by show Eq (PyData.bool (areGood p (named p r))) = _; rw [good_eq hp (subs_some.mp hm)]))))
      (fun r _ _ s H C cl fp => vr 1))) ?_
  rw [List.map_id']
  rfl

abbrev s_is_within : Stmt := topS 29
abbrev n_is_within : List Str := ["one", "other", "number"]
theorem sc_is_within : FnScope n_is_within ["one", "other"] (defScope s_is_within) := ⟨rfl, rfl, rfl, by decide +kernel, rfl, by decide +kernel, by decide +kernel⟩
theorem d_is_within {f fd} (A : DefAt K mg "is_within" s_is_within ["one", "other"] f fd) (B : Bt mg) : Def P w K mg base 1 "is_within" ["one", "other"] c_is_within := by
  refine def_mk A sc_is_within (fun _ => rfl) fun (⟨a, b⟩ : List Int × List Int) _ cdv Ar outer s H E hr => ?_
  show HSs _ _ [.dat (eT a), .dat (eT b), .un] _
  refine hs_ret (ev_all rfl (by rfl) B.all (ev_lcE0 (enc' := PyData.bool) (f := fun x => decide (x ∈ b)) (xs := a) rfl sc_is_within.nd
    (Lc.mk1 (enc := PyData.int) [("number", 2)] (fun x => [.dat (eT a), .dat (eT b), .dat (.int x)]) (ei_tup (vr 0)) (blkOk_by (N := n_is_within) (sc := defScope s_is_within) (by decide +kernel)) rfl
      (fun x _ s H C cl fp => eg_name 2 sc_is_within.nd) (fun _ _ => rfl) (fun _ _ => rfl)
      (fun _ _ s H C cl fp => pts_yes)
      (fun x hx _ s H C cl fp => ev_inT hr (vr 2) (vr 1) (en_int.ok _) (en_T.ok _) (inD_map en_int _ _))))) ?_
  show PyData.bool (within a b) = _
  unfold within
  rw [List.all_map]; rfl

abbrev s_Desk_reachable : Stmt := inClass (topS 33) 8
abbrev n_Desk_reachable : List Str := ["self", "row"]
theorem sc_Desk_reachable : FnScope n_Desk_reachable ["self"] (defScope s_Desk_reachable) := ⟨rfl, rfl, rfl, by decide +kernel, rfl, by decide +kernel, by decide +kernel⟩
theorem d_Desk_reachable {C : Addr} (T : DskT K C) {f fd} (A : MetAt K C "reachable" "Desk.reachable" s_Desk_reachable ["self"] f fd) (B : Bt mg) (h_good_ones : Def P w K mg base 4 "good_ones" ["plan"] c_good_ones) (h_is_within : Def P w K mg base 1 "is_within" ["one", "other"] c_is_within) : MetR P w K mg base 5 C "reachable" ["self"] c_reachable := by
  refine ⟨f, fd, spR_mk A.fn sc_Desk_reachable (fun _ => rfl) fun (⟨p, s, dn, un⟩ : DA) ⟨(hp : p.Ok), (hs : SomeOk p s), (hg : good p s = true)⟩ cdv Ar outer sh H E hr => ?_, A.at_, A.kw⟩
  show HSs _ _ [.mt (dskR C (dsk p s dn un)), .un] _
  refine hs_ret (ev_maxL (ns := ((goodOnes p).filter fun r => within s r).map fun r => (r.length : Int)) (m := (reach p s : Nat)) rfl (by rfl) B.max (ev_lcE (enc' := PyData.int) (f := fun (r : List Int) => (r.length : Int)) (g := fun r => within s r) (xs := goodOnes p) rfl sc_Desk_reachable.nd
    (Lc.mk1 (enc := eT) [("row", 1)] (fun r => [.mt (dskR C (dsk p s dn un)), .dat (eT r)]) (ei_list (ev_call h_good_ones p hr (by rfl) (ea_cons (ev_planR T 0) ea_nil) hp)) (blkOk_by (N := n_Desk_reachable) (sc := defScope s_Desk_reachable) (by decide +kernel)) rfl
      (fun x _ s H C cl fp => eg_name 1 sc_Desk_reachable.nd) (fun _ _ => rfl) (fun _ _ => rfl)
      (fun r _ s' H C cl fp => pts_one (et_val (ev_call h_is_within (s, r) hr (by rfl) (ea_cons (ev_someR T 0) (ea_cons (vr 1) ea_nil)) trivial)))
      (fun r _ _ s' H C cl fp => ev_eq' (ev_lenT (by rfl) B.len (vr 1)) (by rw [List.length_map])))) ?_ (fun y hy => ?_)) rfl
  · obtain ⟨r', hr', e⟩ := maxL_at (l := (goodOnes p).filter fun r => within s r) (List.ne_nil_of_mem (reach_in hs hg))
    exact List.mem_map.mpr ⟨r', hr', by rw [e]; rfl⟩
  · obtain ⟨r', hr', rfl⟩ := List.mem_map.mp hy
    have := le_maxL hr'
    show (r'.length : Int) ≤ (maxL ((goodOnes p).filter fun r => within s r) : Nat)
    omega

abbrev s_Desk___str__ : Stmt := inClass (topS 33) 12
abbrev n_Desk___str__ : List Str := ["self"]
theorem sc_Desk___str__ : FnScope n_Desk___str__ ["self"] (defScope s_Desk___str__) := ⟨rfl, rfl, rfl, by decide +kernel, rfl, by decide +kernel, by decide +kernel⟩
theorem d_Desk___str__ {C : Addr} (T : DskT K C) {f fd} (A : MetAt K C "__str__" "Desk.__str__" s_Desk___str__ ["self"] f fd) (B : Bt mg) : MetR P w K mg base 1 C "__str__" ["self"] c_strD := by
  refine ⟨f, fd, spR_mk A.fn sc_Desk___str__ (fun _ => rfl) fun (⟨p, s, dn, un⟩ : DA) ⟨(h8 : s.length ≤ 8), (w8 : p.wishes.length ≤ 8)⟩ cdv Ar outer sh H E hr => ?_, A.at_, A.kw⟩
  show HSs _ _ [.mt (dskR C (dsk p s dn un))] _
  have e : [txt (s.length : Nat), (" of " : Str), txt (p.wishes.length : Nat), (" granted" : Str)].foldl (· ++ ·) Str.empty = gtxt s.length p.wishes.length := by
    show ((((Str.empty ++ txt (s.length : Nat)) ++ (" of " : Str)) ++ txt (p.wishes.length : Nat)) ++ (" granted" : Str)) = _
    rw [empty_app]; rfl
  refine hs_ret (ev_joined (ss := [txt (s.length : Nat), (" of " : Str), txt (p.wishes.length : Nat), (" granted" : Str)])
    (.cons (ev_fmtI (ev_eq' (ev_lenT (by rfl) B.len (ev_someR T 0)) (by rw [List.length_map])) (log_small h8) (by rw [txt_1 _ h8]; decide)) (.cons ev_str (.cons (ev_fmtI (ev_eq' (ev_lenT (by rfl) B.len (ev_ix (ev_planR T 0) ev_int rfl)) (by rw [List.length_map])) (log_small w8) (by rw [txt_1 _ w8]; decide)) (.cons ev_str .nil)))) ?_) ?_
  · rw [e, gtxt_len h8 w8]; decide
  · rw [e]; rfl

abbrev s_law_agrees : Stmt := topS 45
abbrev n_law_agrees : List Str := ["_law_desk", "_law_plan_here", "_law_goods_here", "_law_some", "_law_history", "_law_one", "_law_free", "_law_row"]
theorem sc_law_agrees : FnScope n_law_agrees ["_law_desk", "_law_plan_here", "_law_goods_here", "_law_some", "_law_history"] (defScope s_law_agrees) := ⟨rfl, rfl, rfl, by decide +kernel, rfl, by decide +kernel, by decide +kernel⟩
theorem d_law_agrees {C : Addr} (T : DskT K C) {f fd} (A : DefAt K mg "_law_agrees" s_law_agrees ["_law_desk", "_law_plan_here", "_law_goods_here", "_law_some", "_law_history"] f fd) (B : Bt mg) (h_Desk_granted : MetR P w K mg base 1 C "granted" ["self"] c_granted) (h_Desk_history : MetR P w K mg base 1 C "history" ["self"] c_history) (h_Desk___len__ : MetR P w K mg base 1 C "__len__" ["self"] c_len) (h_Desk_options : MetR P w K mg base 5 C "options" ["self"] c_options) (h_Desk_reachable : MetR P w K mg base 5 C "reachable" ["self"] c_reachable) (h_Desk___str__ : MetR P w K mg base 1 C "__str__" ["self"] c_strD) : DefRd P w K mg base 6 C "_law_agrees" ["_law_desk", "_law_plan_here", "_law_goods_here", "_law_some", "_law_history"] c_law_agrees := by
  refine ⟨f, fd, spR_mk A.fn sc_law_agrees (fun _ => rfl) fun (⟨p, s, dn, un⟩ : DA) ⟨(hp : p.Ok), (hs : SomeOk p s), (hg : good p s = true), (hl : dn.length ≤ 64)⟩ cdv Ar outer sh H E hr => ?_, A.at_, A.fn.kp, A.kw⟩
  have hsl := hs.len
  have hw8 := hp.w8
  show HSs _ _ (.mt (dskR C (dsk p s dn un)) :: .dat (eP p) :: .dat (eLT (goodOnes p)) :: .dat (eT s) :: .dat (histD dn) :: List.replicate 3 SD.un) _
  have eH : PyData.eqv (histD dn) (histD dn) = true := by
    have := (en_tup en_Op).eq (dn.map fun e => e.1) (dn.map fun e => e.1)
    rw [decide_eq_true rfl] at this
    unfold histD
    rw [List.map_map] at this
    exact this
  have sH : SeqAt.shaped (histD dn) = true := by
    have := (en_tup en_Op).ok (dn.map fun e => e.1)
    rw [List.map_map] at this
    exact this
  refine hs_if0 (b := false) (et_orF (et_eq' (et_ne hr (ev_methRR (c := c_granted) h_Desk_granted 0 (p, s, dn, un) hr T trivial) (vr 3) (en_T.ok s) (en_T.ok s) rfl) (by rw [show c_granted.res (p, s, dn, un) = eT s from rfl, en_T.eq]; simp)) (ew_orF (et_eq' (et_ne hr (ev_methRR (c := c_history) h_Desk_history 0 (p, s, dn, un) hr T trivial) (vr 4) sH sH rfl) (by rw [show c_history.res (p, s, dn, un) = histD dn from rfl, eH]; rfl)) (ew_or1 (et_eq' (et_ne hr (ev_lenDR (c := c_len) (z := (s.length : Nat)) h_Desk___len__ 0 (p, s, dn, un) hr (by rfl) B.len trivial rfl (by omega) (by omega)) (ev_eq' (ev_lenT (by rfl) B.len (vr 3)) (by rw [List.length_map])) (en_int.ok _) (en_int.ok _) rfl) (by rw [eqI]; simp))))) (fun z => nomatch z) fun _ => ?_
  refine hs_setLc (i := 6) rfl sc_law_agrees.nd rfl rfl rfl (sw_true rfl rfl rfl (by decide +kernel))
    (Lc.mk1 (enc := PyData.int) (xs := rangeD 0 p.wishes.length) (f := PyData.int) (g := fun y => decide (y ∉ s)) [("_law_one", 5)] (fun y => .mt (dskR C (dsk p s dn un)) :: .dat (eP p) :: .dat (eLT (goodOnes p)) :: .dat (eT s) :: .dat (histD dn) :: .dat (.int y) :: List.replicate 2 SD.un) (ei_eq (ei_range1 (n := (p.wishes.length : Int)) (by rfl) B.range (ev_eq' (ev_lenT (by rfl) B.len (ev_ix (vr 1) ev_int rfl)) (by rw [List.length_map])) (by omega) (by omega)) (by simp)) (blkOk_by (N := n_law_agrees) (sc := defScope s_law_agrees) (by decide +kernel)) rfl
      (fun x _ s H C cl fp => eg_name 5 sc_law_agrees.nd) (fun _ _ => rfl) (fun _ _ => rfl)
      (fun y _ s' H C cl fp => pts_one (et_ninT hr (vr 5) (vr 3) (en_int.ok _) (en_T.ok _) (by rw [inD_map en_int]; simp)))
      (fun y _ _ s' H C cl fp => vr 5)) fun ds es e he => ?_
  have e2 : es = (others p s).map PyData.int := (lc_end es ⟨ds, e, he⟩).symm
  subst e2
  show HSs _ _ (.mt (dskR C (dsk p s dn un)) :: .dat (eP p) :: .dat (eLT (goodOnes p)) :: .dat (eT s) :: .dat (histD dn) :: .un :: .dat (.list ((others p s).map PyData.int)) :: [SD.un]) _
  refine hs_if0 (b := false) (et_eq' (et_ne hr (ev_methRR (c := c_options) h_Desk_options 0 (p, s, dn, un) hr T ⟨hp, hs⟩) (ev_tupleL (ds := (added p s).map PyData.int) (by rfl) B.tuple (ev_eq' (ev_lcE (enc' := PyData.int) (f := fun (y : Int) => y) (g := fun y => decide (sortI (s ++ [y]) ∈ goodOnes p)) (xs := others p s) rfl sc_law_agrees.nd
    (Lc.mk1 (enc := PyData.int) [("_law_one", 5)] (fun y => .mt (dskR C (dsk p s dn un)) :: .dat (eP p) :: .dat (eLT (goodOnes p)) :: .dat (eT s) :: .dat (histD dn) :: .dat (.int y) :: .dat (.list ((others p s).map PyData.int)) :: [SD.un]) (ei_list (vr 6)) (blkOk_by (N := n_law_agrees) (sc := defScope s_law_agrees) (by decide +kernel)) rfl
      (fun x _ s H C cl fp => eg_name 5 sc_law_agrees.nd) (fun _ _ => rfl) (fun _ _ => rfl)
      (fun y _ s' H C cl fp => pts_one (et_inL hr (ev_tupleL (ds := (sortI (s ++ [y])).map PyData.int) (by rfl) B.tuple (ev_eq' (ev_sortedT (ds := (s ++ [y]).map PyData.int) hr (by rfl) B.sorted (ev_eq' (ev_catT (vr 3) (ev_tup (ea_cons (vr 5) ea_nil)) (by rw [List.length_map]; show s.length + 1 ≤ 4096; omega)) (by rw [List.map_append]; rfl)) (srt_ints _)) (congrArg PyData.list (sort_ints _)))) (vr 2) (en_T.ok (sortI (s ++ [y]))) ((en_lst en_T).ok (goodOnes p)) (inD_map en_T (sortI (s ++ [y])) (goodOnes p))))
      (fun y _ _ s' H C cl fp => vr 5))) (by rw [List.map_id', added_own hp hs]))) (en_T.ok (added p s)) (en_T.ok (added p s)) rfl) (by rw [show c_options.res (p, s, dn, un) = eT (added p s) from rfl, show PyData.tuple ((added p s).map PyData.int) = eT (added p s) from rfl, en_T.eq]; simp)) (fun z => nomatch z) fun _ => ?_
  refine hs_if0 (b := false) (et_eq' (et_ne hr (ev_methRR (c := c_reachable) h_Desk_reachable 0 (p, s, dn, un) hr T ⟨hp, hs, hg⟩) (ev_maxL (ns := ((goodOnes p).filter fun r => within s r).map fun r => (r.length : Int)) (m := (reach p s : Nat)) rfl (by rfl) B.max (ev_lcE (enc' := PyData.int) (f := fun (r : List Int) => (r.length : Int)) (g := fun r => within s r) (xs := goodOnes p) rfl sc_law_agrees.nd
    (Lc.mk1 (enc := eT) [("_law_row", 7)] (fun r => .mt (dskR C (dsk p s dn un)) :: .dat (eP p) :: .dat (eLT (goodOnes p)) :: .dat (eT s) :: .dat (histD dn) :: .un :: .dat (.list ((others p s).map PyData.int)) :: [.dat (eT r)]) (ei_list (vr 2)) (blkOk_by (N := n_law_agrees) (sc := defScope s_law_agrees) (by decide +kernel)) rfl
      (fun x _ s H C cl fp => eg_name 7 sc_law_agrees.nd) (fun _ _ => rfl) (fun _ _ => rfl)
      (fun r _ s' H C1 cl1 fp => pts_one (et_eq' (et_eq hr (ev_lcE (enc' := PyData.int) (f := fun (y : Int) => y) (g := fun y => decide (y ∉ r)) (xs := s) rfl sc_law_agrees.nd
        (Lc.mk1 (enc := PyData.int) [("_law_one", 5)] (fun y => .mt (dskR C (dsk p s dn un)) :: .dat (eP p) :: .dat (eLT (goodOnes p)) :: .dat (eT s) :: .dat (histD dn) :: .dat (.int y) :: .dat (.list ((others p s).map PyData.int)) :: [.dat (eT r)]) (ei_tup (vr 3)) (blkOk_in (N := n_law_agrees) (sc0 := defScope s_law_agrees) rfl (by decide +kernel)) rfl
          (fun x _ s H C cl fp => eg_name 5 sc_law_agrees.nd) (fun _ _ => rfl) (fun _ _ => rfl)
          (fun y _ s' H C cl fp => pts_one (et_ninT hr (vr 5) (vr 7) (en_int.ok _) (en_T.ok r) (by rw [inD_map en_int]; simp)))
          (fun y _ _ s' H C cl fp => vr 5))) (ev_lst ea_nil) ((en_lst en_int).ok _) rfl (eqv_lnil _)) (by rw [List.isEmpty_map, List.map_id', Bool.eq_iff_iff, List.isEmpty_iff, List.filter_eq_nil_iff, within_iff]; simp)))
      (fun r _ _ s' H C cl fp => ev_eq' (ev_lenT (by rfl) B.len (vr 7)) (by rw [List.length_map])))) ?_ (fun y hy => ?_)) (en_int.ok _) (en_int.ok _) rfl) (by rw [show c_reachable.res (p, s, dn, un) = .int (reach p s : Nat) from rfl, eqI]; simp)) (fun z => nomatch z) fun _ => ?_
  · obtain ⟨r', hr', e⟩ := maxL_at (l := (goodOnes p).filter fun r => within s r) (List.ne_nil_of_mem (reach_in hs hg))
    exact List.mem_map.mpr ⟨r', hr', by rw [e]; rfl⟩
  · obtain ⟨r', hr', rfl⟩ := List.mem_map.mp hy
    have := le_maxL hr'
    show (r'.length : Int) ≤ (maxL ((goodOnes p).filter fun r => within s r) : Nat)
    omega
  have h8 : s.length ≤ 8 := by omega
  have t1 := txt_1 s.length h8
  have t2 := txt_1 p.wishes.length hw8
  refine hs_ret (ev_eq (k := true) hr (ev_strDR (c := c_strD) (z := gtxt s.length p.wishes.length) h_Desk___str__ 0 (p, s, dn, un) hr (by rfl) B.str ⟨h8, hw8⟩ rfl (by rw [gtxt_len h8 hw8]; decide)) (ev_catS (ev_catS (ev_catS (ev_strI (i := (s.length : Nat)) (by rfl) B.str (ev_eq' (ev_lenT (by rfl) B.len (vr 3)) (by rw [List.length_map])) (log_small h8) (by rw [t1]; decide)) ev_str ?_) (ev_strI (i := (p.wishes.length : Nat)) (by rfl) B.str (ev_eq' (ev_lenT (by rfl) B.len (ev_ix (vr 1) ev_int rfl)) (by rw [List.length_map])) (log_small hw8) (by rw [t2]; decide)) ?_) ev_str ?_) (gtxt_shp h8 hw8) (gtxt_shp h8 hw8) (eqv_str _)) rfl
  · rw [Str.length_append, t1, of_len]; decide
  · rw [Str.length_append, Str.length_append, t1, t2, of_len]; decide
  · exact Nat.le_trans (Nat.le_of_eq (gtxt_len h8 hw8)) (by decide)

abbrev s_law_result : Stmt := topS 35
abbrev n_law_result : List Str := ["_law_call_here", "_law_raised", "_law_answer", "e", "_law_some", "_law_name", "_law_names"]
theorem sc_law_result : FnScope n_law_result ["_law_call_here"] (defScope s_law_result) := ⟨rfl, rfl, rfl, by decide +kernel, rfl, by decide +kernel, by decide +kernel⟩
theorem d_law_result {f fd} (A : DefAt K mg "_law_result" s_law_result ["_law_call_here"] f fd) (B : Bt mg) (M : ErrM K mg cl CS) : ∀ k, DefR P w K mg base (k + 1) "_law_result" cl := by
  intro kk
  obtain ⟨oc, od, kV, doc, pm, an, cdv, ct, osl, rfl, lk, hcd⟩ := A.fn.ex
  refine ⟨_, "_law_call_here", n_law_result, _, _, _, _, kV, doc, pm, cdv, ct, oc, an, od, osl, A.at_, A.fn.kp, lk, hcd, A.kw.bd, sc_law_result, rfl, by first | exact .inl rfl | exact .inr (.inl rfl), by decide, by decide, fun Ar outer s H f o S O Q hr hS hSx hSal hact hQ => ?_⟩
  refine result_run (ρ1 := [.mt (fnM f), .dat .none, .dat .none, .un, .un, .un, .un]) (ir := 1) (ia := 2) (ie := 3) M.t rfl rfl rfl sc_law_result.nd rfl (by first | exact .inl rfl | exact .inr rfl) rfl rfl rfl rfl rfl (by decide) ⟨rfl, by decide, .inl M.ms⟩ rfl rfl rfl rfl (by decide) (by decide) hS hSx hSal hact hQ rfl rfl (fun s hs => ?_)
    (h1_asg (js := [1, 2]) (d := .tuple [.none, .none]) (ev_tup (ea_cons ev_non (ea_cons ev_non ea_nil))) (eg_tup rfl (.cons (eg_name 1 sc_law_result.nd) (.cons (eg_name 2 sc_law_result.nd) .nil rfl) rfl))) (fun d hd => ?_) (fun k e hk => ?_)
  · simp only [List.mem_cons, List.not_mem_nil, or_false] at hs
    rcases hs with h | h | h | h | h | h | h <;> (subst h; first | exact rfl | exact True.intro)
  · subst hd
    show HSs _ _ [.mt (fnM f), .dat .none, .dat d, .un, .un, .un, .un] _
    exact hs_if0 (b := true) (et_isN (vr 1) ev_non rfl) (fun _ => hs_ret (ev_tup (ea_cons ev_str (ea_cons (vr 2) ea_nil))) rfl) (fun z => nomatch z)
  · subst hk
    show HSs _ _ [.un, .mt (excM e (.ref (cl k))), .un, .un, .un, .un, .un] _
    refine hs_if0 (b := false) (et_isNx 1 rfl ev_non) (fun z => nomatch z) fun _ => ?_
    refine hd_new 4 (ep_cons (ev_isK M.t .plan 1 (M.me .plan) (by rfl) B.isinstance (by rfl)) (ep_cons (ev_isK M.t .wishes 1 (M.me .wishes) (by rfl) B.isinstance (by rfl)) ep_nil)) ?_ sc_law_result.nd
    refine hd_upd (ep_cons (ev_isK M.t .number 1 (M.me .number) (by rfl) B.isinstance (by rfl)) (ep_cons (ev_isK M.t .text 1 (M.me .text) (by rfl) B.isinstance (by rfl)) ep_nil)) ?_
    refine hd_upd (ep_cons (ev_isK M.t .bad 1 (M.me .bad) (by rfl) B.isinstance (by rfl)) (ep_cons (ev_isK M.t .unlike 1 (M.me .unlike) (by rfl) B.isinstance (by rfl)) ep_nil)) ?_
    refine hd_upd (ep_cons (ev_isK M.t .already 1 (M.me .already) (by rfl) B.isinstance (by rfl)) (ep_cons (ev_isK M.t .notyet 1 (M.me .notyet) (by rfl) B.isinstance (by rfl)) ep_nil)) ?_
    refine hd_upd (ep_cons (ev_isK M.t .undo 1 (M.me .undo) (by rfl) B.isinstance (by rfl)) ep_nil) ?_
    refine hd_lock fun a od => ?_
    have nd9 : (["plan", "wishes", "number", "text", "bad", "unlike", "already", "not yet", "undo"] : List Str).Nodup := by decide +kernel
    have l9 : ∀ kb ∈ marksOf k, kb.1.length ≤ big := fun kb h => by
      have hm : kb.1 ∈ (["plan", "wishes", "number", "text", "bad", "unlike", "already", "not yet", "undo"] : List Str) := List.mem_map.mpr ⟨kb, h, rfl⟩
      revert hm
      generalize kb.1 = x
      revert x
      decide +kernel
    show HSs _ _ [.un, .mt (excM e (.ref (cl k))), .un, .un, .mt (dctZ a od (kvB (marksOf k))), .un, .un] _
    refine hs_setLc (i := 6) rfl sc_law_result.nd rfl rfl rfl (sw_true rfl rfl rfl (by decide +kernel))
      (Lc.mk1 (enc := fun kb : Str × Bool => .str kb.1) (xs := marksOf k) (f := fun kb => .str kb.1) (g := fun kb => kb.2) [("_law_name", 5)] (fun kb => [.un, .mt (excM e (.ref (cl k))), .un, .un, .mt (dctZ a od (kvB (marksOf k))), .dat (.str kb.1), .un]) (ei_keys 4 rfl (Nat.le_of_ble_eq_true rfl) l9) (blkOk_by (N := n_law_result) (sc := defScope s_law_result) (by decide +kernel)) rfl
        (fun w _ s H C cl fp => eg_name 5 sc_law_result.nd) (fun _ _ => rfl) (fun _ _ => rfl)
        (fun kb hb s H C cl fp => pts_one (et_val (ev_dgetB hr 4 kb hb nd9 (vr 5))))
        (fun w _ _ s H C cl fp => vr 5)) fun ds es e' he => ?_
    have e2 : es = [.str k.nm] := by
      rw [← lc_end es ⟨ds, e', he⟩]
      cases k <;> rfl
    subst e2
    show HSs _ _ [.un, .mt (excM e (.ref (cl k))), .un, .un, .mt (dctZ a od (kvB (marksOf k))), .un, .dat (.list [.str k.nm])] _
    refine hs_ret (ev_if (d' := .none) (k := true) (et_and true true (et_eq hr (ev_lenL (by rfl) B.len (vr 6)) ev_int rfl rfl rfl) (fun _ => ew_and1 (et_val (ev_isKV M.t 1 M.mv (by rfl) B.isinstance (by rfl))))) (fun _ => ev_tup (ea_cons (ev_ixL (vr 6) ev_int rfl) ea_nil)) (fun z => nomatch z)) rfl

theorem d_law_result_x {f fd} (A : DefAt K mg "_law_result" s_law_result ["_law_call_here"] f fd) (B : Bt mg) (M : ErrM K mg cl CS) : ∀ k, DefQ P w K mg base (k + 1) "_law_result" cl := by
  intro kk
  obtain ⟨oc, od, kV, doc, pm, an, cdv, ct, osl, rfl, lk, hcd⟩ := A.fn.ex
  refine ⟨_, "_law_call_here", n_law_result, _, _, _, _, kV, doc, pm, cdv, ct, oc, an, od, osl, A.at_, A.fn.kp, lk, hcd, A.kw.bd, sc_law_result, rfl, by first | exact .inl rfl | exact .inr (.inl rfl), by decide, by decide, fun Ar outer s H f o S S' O Q hr hS hSx hSx' hSal hSal' hact hQ => ?_⟩
  refine result_run2 (ρ1 := [.mt (fnM f), .dat .none, .dat .none, .un, .un, .un, .un]) (ir := 1) (ia := 2) (ie := 3) M.t rfl rfl rfl sc_law_result.nd rfl (by first | exact .inl rfl | exact .inr rfl) rfl rfl rfl rfl rfl (by decide) ⟨rfl, by decide, .inl M.ms⟩ rfl rfl rfl rfl (by decide) (by decide) hS hSx hSx' hSal hSal' hact hQ rfl rfl (fun s hs => ?_)
    (h1_asg (js := [1, 2]) (d := .tuple [.none, .none]) (ev_tup (ea_cons ev_non (ea_cons ev_non ea_nil))) (eg_tup rfl (.cons (eg_name 1 sc_law_result.nd) (.cons (eg_name 2 sc_law_result.nd) .nil rfl) rfl))) (fun d hd => ?_) (fun k e hk => ?_)
  · simp only [List.mem_cons, List.not_mem_nil, or_false] at hs
    rcases hs with h | h | h | h | h | h | h <;> (subst h; first | exact rfl | exact True.intro)
  · subst hd
    show HSs _ _ [.mt (fnM f), .dat .none, .dat d, .un, .un, .un, .un] _
    exact hs_if0 (b := true) (et_isN (vr 1) ev_non rfl) (fun _ => hs_ret (ev_tup (ea_cons ev_str (ea_cons (vr 2) ea_nil))) rfl) (fun z => nomatch z)
  · subst hk
    show HSs _ _ [.un, .mt (excM e (.ref (cl k))), .un, .un, .un, .un, .un] _
    refine hs_if0 (b := false) (et_isNx 1 rfl ev_non) (fun z => nomatch z) fun _ => ?_
    refine hd_new 4 (ep_cons (ev_isK M.t .plan 1 (M.me .plan) (by rfl) B.isinstance (by rfl)) (ep_cons (ev_isK M.t .wishes 1 (M.me .wishes) (by rfl) B.isinstance (by rfl)) ep_nil)) ?_ sc_law_result.nd
    refine hd_upd (ep_cons (ev_isK M.t .number 1 (M.me .number) (by rfl) B.isinstance (by rfl)) (ep_cons (ev_isK M.t .text 1 (M.me .text) (by rfl) B.isinstance (by rfl)) ep_nil)) ?_
    refine hd_upd (ep_cons (ev_isK M.t .bad 1 (M.me .bad) (by rfl) B.isinstance (by rfl)) (ep_cons (ev_isK M.t .unlike 1 (M.me .unlike) (by rfl) B.isinstance (by rfl)) ep_nil)) ?_
    refine hd_upd (ep_cons (ev_isK M.t .already 1 (M.me .already) (by rfl) B.isinstance (by rfl)) (ep_cons (ev_isK M.t .notyet 1 (M.me .notyet) (by rfl) B.isinstance (by rfl)) ep_nil)) ?_
    refine hd_upd (ep_cons (ev_isK M.t .undo 1 (M.me .undo) (by rfl) B.isinstance (by rfl)) ep_nil) ?_
    refine hd_lock fun a od => ?_
    have nd9 : (["plan", "wishes", "number", "text", "bad", "unlike", "already", "not yet", "undo"] : List Str).Nodup := by decide +kernel
    have l9 : ∀ kb ∈ marksOf k, kb.1.length ≤ big := fun kb h => by
      have hm : kb.1 ∈ (["plan", "wishes", "number", "text", "bad", "unlike", "already", "not yet", "undo"] : List Str) := List.mem_map.mpr ⟨kb, h, rfl⟩
      revert hm
      generalize kb.1 = x
      revert x
      decide +kernel
    show HSs _ _ [.un, .mt (excM e (.ref (cl k))), .un, .un, .mt (dctZ a od (kvB (marksOf k))), .un, .un] _
    refine hs_setLc (i := 6) rfl sc_law_result.nd rfl rfl rfl (sw_true rfl rfl rfl (by decide +kernel))
      (Lc.mk1 (enc := fun kb : Str × Bool => .str kb.1) (xs := marksOf k) (f := fun kb => .str kb.1) (g := fun kb => kb.2) [("_law_name", 5)] (fun kb => [.un, .mt (excM e (.ref (cl k))), .un, .un, .mt (dctZ a od (kvB (marksOf k))), .dat (.str kb.1), .un]) (ei_keys 4 rfl (Nat.le_of_ble_eq_true rfl) l9) (blkOk_by (N := n_law_result) (sc := defScope s_law_result) (by decide +kernel)) rfl
        (fun w _ s H C cl fp => eg_name 5 sc_law_result.nd) (fun _ _ => rfl) (fun _ _ => rfl)
        (fun kb hb s H C cl fp => pts_one (et_val (ev_dgetB hr 4 kb hb nd9 (vr 5))))
        (fun w _ _ s H C cl fp => vr 5)) fun ds es e' he => ?_
    have e2 : es = [.str k.nm] := by
      rw [← lc_end es ⟨ds, e', he⟩]
      cases k <;> rfl
    subst e2
    show HSs _ _ [.un, .mt (excM e (.ref (cl k))), .un, .un, .mt (dctZ a od (kvB (marksOf k))), .un, .dat (.list [.str k.nm])] _
    refine hs_ret (ev_if (d' := .none) (k := true) (et_and true true (et_eq hr (ev_lenL (by rfl) B.len (vr 6)) ev_int rfl rfl rfl) (fun _ => ew_and1 (et_val (ev_isKV M.t 1 M.mv (by rfl) B.isinstance (by rfl))))) (fun _ => ev_tup (ea_cons (ev_ixL (vr 6) ev_int rfl) ea_nil)) (fun z => nomatch z)) rfl

abbrev s_is_object : Stmt := topS 14
abbrev n_is_object : List Str := ["houses", "value"]
theorem sc_is_object : FnScope n_is_object ["houses", "value"] (defScope s_is_object) := ⟨rfl, rfl, rfl, by decide +kernel, rfl, by decide +kernel, by decide +kernel⟩
theorem d_is_object {f fd} (A : DefAt K mg "is_object" s_is_object ["houses", "value"] f fd) (B : Bt mg) (h_is_between : Def P w K mg base 1 "is_between" ["value", "low", "high"] c_is_between) : Def P w K mg base 2 "is_object" ["houses", "value"] c_is_object := by
  refine def_mk A sc_is_object (fun _ => rfl) fun ⟨h, d⟩ _ cdv Ar outer s H E hr => ?_
  show HSs _ _ [.dat (.int h), .dat d] _
  by_cases ht : isTup d = true
  · obtain ⟨ds, rfl⟩ := isTup_of ht
    by_cases hl : ds.length = 4
    · obtain ⟨a, b, c, e, rfl⟩ := len4 hl
      refine hs_if0 (b := !isBetween a 0 (h - 1)) (et_orF (et_nt (et_val (ev_isTup (by rfl) B.isinstance (by rfl) B.tuple (vr 1)))) (ew_orF (et_ne hr (ev_lenT (by rfl) B.len (vr 1)) ev_int rfl rfl rfl) (ew_or1 (et_not (et_val (ev_call h_is_between (a, 0, h - 1) hr (by rfl) (ea_cons (ev_ix (vr 1) ev_int rfl) (ea_cons ev_int (ea_cons (ev_sub (vr 0) ev_int) ea_nil))) trivial)))))) (fun h0 => hs_ret ev_bl ?_) fun h0 => ?_
      · show PyData.bool (isObjD h (.tuple [a, b, c, e])) = _
        simp only [Bool.not_eq_true'] at h0
        simp only [isObjD, h0, Bool.false_and]
      · refine hs_ret (ev_and (ev_call h_is_between (b, 1, 20) hr (by rfl) (ea_cons (ev_ix (vr 1) ev_int rfl) (ea_cons ev_int (ea_cons ev_int ea_nil))) trivial) fun _ => ev_and (ev_call h_is_between (c, 0, 9) hr (by rfl) (ea_cons (ev_ix (vr 1) ev_int rfl) (ea_cons ev_int (ea_cons ev_int ea_nil))) trivial) fun _ => ev_one (ev_call h_is_between (e, 1, 40) hr (by rfl) (ea_cons (ev_ix (vr 1) ev_int rfl) (ea_cons ev_int (ea_cons ev_int ea_nil))) trivial)) ?_
        show PyData.bool (isObjD h (.tuple [a, b, c, e])) = _
        simp only [Bool.not_eq_false'] at h0
        simp only [isObjD, h0, Bool.true_and]
    · refine hs_if0 (b := true) (et_orF (et_nt (et_val (ev_isTup (by rfl) B.isinstance (by rfl) B.tuple (vr 1)))) (ew_orT (et_ne hr (ev_lenT (by rfl) B.len (vr 1)) ev_int rfl rfl ?_))) (fun _ => hs_ret ev_bl ?_) (fun z => nomatch z)
      · rw [eqI]
        simp only [Bool.not_eq_true', decide_eq_false_iff_not]
        omega
      · show PyData.bool (isObjD h (.tuple ds)) = _
        unfold isObjD
        split
        · rename_i heq
          cases heq
          exact absurd rfl hl
        · rfl
  · have ht' : isTup d = false := by simpa using ht
    refine hs_if0 (b := true) (et_orT (et_eq' (et_not (et_val (ev_isTup (by rfl) B.isinstance (by rfl) B.tuple (vr 1)))) (by rw [ht']; rfl))) (fun _ => hs_ret ev_bl ?_) (fun z => nomatch z)
    cases d <;> first | rfl | cases ht'

abbrev s_is_wish : Stmt := topS 15
abbrev n_is_wish : List Str := ["houses", "objects", "value"]
theorem sc_is_wish : FnScope n_is_wish ["houses", "objects", "value"] (defScope s_is_wish) := ⟨rfl, rfl, rfl, by decide +kernel, rfl, by decide +kernel, by decide +kernel⟩
theorem d_is_wish {f fd} (A : DefAt K mg "is_wish" s_is_wish ["houses", "objects", "value"] f fd) (B : Bt mg) (g_LAST : G_LAST mg) (h_is_between : Def P w K mg base 1 "is_between" ["value", "low", "high"] c_is_between) : Def P w K mg base 2 "is_wish" ["houses", "objects", "value"] c_is_wish := by
  obtain ⟨tl, g_LAST⟩ := g_LAST
  refine def_mk A sc_is_wish (fun _ => rfl) fun ⟨h, os, d⟩ hos cdv Ar outer s H E hr => ?_
  show HSs _ _ [.dat (.int h), .dat (.tuple os), .dat d] _
  by_cases ht : isTup d = true
  · obtain ⟨ds, rfl⟩ := isTup_of ht
    by_cases hl : ds.length = 4
    · obtain ⟨a, b, c, e, rfl⟩ := len4 hl
      refine hs_if0 (b := !isBetween a 0 (h - 1)) (et_orF (et_nt (et_val (ev_isTup (by rfl) B.isinstance (by rfl) B.tuple (vr 2)))) (ew_orF (et_ne hr (ev_lenT (by rfl) B.len (vr 2)) ev_int rfl rfl rfl) (ew_or1 (et_not (et_val (ev_call h_is_between (a, 0, h - 1) hr (by rfl) (ea_cons (ev_ix (vr 2) ev_int rfl) (ea_cons ev_int (ea_cons (ev_sub (vr 0) ev_int) ea_nil))) trivial)))))) (fun h0 => hs_ret ev_bl ?_) fun h0 => ?_
      · show PyData.bool (isWishD h os (.tuple [a, b, c, e])) = _
        simp only [Bool.not_eq_true'] at h0
        simp only [isWishD, h0, Bool.false_and]
      · simp only [Bool.not_eq_false'] at h0
        obtain ⟨ai, rfl, _⟩ := isBetween_of h0
        refine hs_if0 (b := !isBetween b 0 ((os.length : Int) - 1) || PyData.eqv (homeD (os.getD (toI b).toNat .none)) (.int ai)) (et_or _ _ (et_not (et_val (ev_call h_is_between (b, 0, (os.length : Int) - 1) hr (by rfl) (ea_cons (ev_ix (vr 2) ev_int rfl) (ea_cons ev_int (ea_cons (ev_sub (ev_lenT (by rfl) B.len (vr 1)) ev_int) ea_nil))) trivial))) (fun hb => ?_)) (fun h1 => hs_ret ev_bl ?_) fun h1 => ?_
        · simp only [Bool.not_eq_false'] at hb
          obtain ⟨j, rfl, j0, j1⟩ := isBetween_of hb
          have hj : j.toNat < os.length := by omega
          have hm : os.getD j.toNat .none ∈ os := getD_mem _ j0 (by omega)
          have hat : atI os j = some (os.getD j.toNat .none) := by
            have := at_nat (e := fun x : PyData => x) (xs := os) PyData.none j0 (by omega)
            simpa using this
          have ho := hos _ hm
          change PW _ _ (tT _ (Eq (PyData.eqv (homeD (os.getD j.toNat PyData.none)) (PyData.int ai))))
          generalize os.getD j.toNat .none = o at hat ho ⊢
          obtain ⟨x, r, rfl, hx⟩ : ∃ x r, o = .tuple (x :: r) ∧ isBetween x 0 (h - 1) = true := by
            unfold isObjD at ho
            split at ho
            · rename_i x y z u
              rw [Bool.and_eq_true] at ho
              exact ⟨x, _, rfl, ho.1⟩
            · cases ho
          obtain ⟨xi, rfl, _⟩ := isBetween_of hx
          exact ew_or1 (et_eq hr (ev_ix (ev_ix (vr 1) (ev_ix (vr 2) ev_int rfl) hat) ev_int (atI_nat (j := 0) rfl)) (ev_ix (vr 2) ev_int rfl) rfl rfl rfl)
        · show PyData.bool (isWishD h os (.tuple [.int ai, b, c, e])) = _
          simp only [isWishD, h0, Bool.true_and]
          rw [Bool.or_eq_true, Bool.not_eq_true'] at h1
          rcases h1 with h1 | h1
          · rw [h1]; rfl
          · rw [h1]; simp
        · rw [Bool.or_eq_false_iff, Bool.not_eq_false'] at h1
          refine hs_ret (d := .bool (isBetween e 0 60 && isBetween c 0 (toI e))) (ev_and (ev_call h_is_between (e, (0 : Int), (60 : Int)) hr (by rfl) (ea_cons (ev_ix (vr 2) ev_int rfl) (ea_cons ev_int (ea_cons (ev_globI (by rfl) g_LAST) ea_nil))) trivial) fun he => ?_) ?_
          · obtain ⟨ei, rfl, _⟩ := isBetween_of he
            exact ev_one (ev_call h_is_between (c, 0, ei) hr (by rfl) (ea_cons (ev_ix (vr 2) ev_int rfl) (ea_cons ev_int (ea_cons (ev_ix (vr 2) ev_int rfl) ea_nil))) trivial)
          · show PyData.bool (isWishD h os (.tuple [.int ai, b, c, e])) = _
            simp only [isWishD, h0, h1.1, h1.2, Bool.true_and, Bool.not_false]
    · refine hs_if0 (b := true) (et_orF (et_nt (et_val (ev_isTup (by rfl) B.isinstance (by rfl) B.tuple (vr 2)))) (ew_orT (et_ne hr (ev_lenT (by rfl) B.len (vr 2)) ev_int rfl rfl ?_))) (fun _ => hs_ret ev_bl ?_) (fun z => nomatch z)
      · rw [eqI]
        simp only [Bool.not_eq_true', decide_eq_false_iff_not]
        omega
      · show PyData.bool (isWishD h os (.tuple ds)) = _
        unfold isWishD
        split
        · rename_i heq
          cases heq
          exact absurd rfl hl
        · rfl
  · have ht' : isTup d = false := by simpa using ht
    refine hs_if0 (b := true) (et_orT (et_eq' (et_not (et_val (ev_isTup (by rfl) B.isinstance (by rfl) B.tuple (vr 2)))) (by rw [ht']; rfl))) (fun _ => hs_ret ev_bl ?_) (fun z => nomatch z)
    cases d <;> first | rfl | cases ht'

abbrev s_is_plan : Stmt := topS 16
abbrev n_is_plan : List Str := ["value", "one", "houses", "objects", "wishes"]
theorem sc_is_plan : FnScope n_is_plan ["value"] (defScope s_is_plan) := ⟨rfl, rfl, rfl, by decide +kernel, rfl, by decide +kernel, by decide +kernel⟩
theorem d_is_plan {f fd} (A : DefAt K mg "is_plan" s_is_plan ["value"] f fd) (B : Bt mg) (h_is_between : Def P w K mg base 1 "is_between" ["value", "low", "high"] c_is_between) (h_is_object : Def P w K mg base 2 "is_object" ["houses", "value"] c_is_object) (h_is_wish : Def P w K mg base 2 "is_wish" ["houses", "objects", "value"] c_is_wish) : Def P w K mg base 3 "is_plan" ["value"] c_is_plan := by
  refine def_mk A sc_is_plan (fun _ => rfl) fun d _ cdv Ar outer s H E hr => ?_
  show HSs _ _ [.dat d, .un, .un, .un, .un] _
  have no : ∀ {d : PyData}, isPlanD d = false → PyData.bool (isPlanD d) = .bool false := fun h => by rw [h]
  by_cases ht : isTup d = true
  · obtain ⟨ds, rfl⟩ := isTup_of ht
    by_cases hl : ds.length = 3
    · obtain ⟨a, b, c, rfl⟩ := len3 hl
      refine hs_if0 (b := !(([a, b, c].map isTup).all id)) (et_orF (et_nt (et_val (ev_isTup (by rfl) B.isinstance (by rfl) B.tuple (vr 0)))) (ew_orF (et_ne hr (ev_lenT (by rfl) B.len (vr 0)) ev_int rfl rfl rfl) (ew_or1 (et_not (et_val (ev_all rfl (by rfl) B.all (ev_lcE0 (xs := [a, b, c]) (enc := fun x => x) (enc' := PyData.bool) (f := isTup) rfl sc_is_plan.nd
        (Lc.mk1 [("one", 1)] (fun x => [.dat (.tuple [a, b, c]), .dat x, .un, .un, .un]) (ei_tup (vr 0)) (blkOk_by (N := n_is_plan) (sc := defScope s_is_plan) (by decide +kernel)) rfl
          (fun x _ s H C cl fp => eg_name 1 sc_is_plan.nd) (fun _ _ => rfl) (fun _ _ => rfl) (fun x _ s H C cl fp => pts_yes)
          (fun x _ _ s H C cl fp => ev_isTup (by rfl) B.isinstance (by rfl) B.tuple (vr 1)))))))))) (fun h0 => hs_ret ev_bl (no ?_)) fun h0 => ?_
      · simp only [Bool.not_eq_true', List.all_map, List.all_cons, List.all_nil, Bool.and_true, Bool.and_eq_false_iff, Function.comp, id] at h0
        unfold isPlanD
        split
        · rename_i heq
          cases heq
          simp [isTup] at h0
        · rfl
      · simp only [Bool.not_eq_false', List.all_map, List.all_cons, List.all_nil, Bool.and_true, Bool.and_eq_true, Function.comp, id] at h0
        obtain ⟨hs, rfl⟩ := isTup_of h0.1
        obtain ⟨os, rfl⟩ := isTup_of h0.2.1
        obtain ⟨ws, rfl⟩ := isTup_of h0.2.2
        refine hs_asg (ρ1 := [.dat (.tuple [.tuple hs, .tuple os, .tuple ws]), .un, .dat (.tuple hs), .dat (.tuple os), .dat (.tuple ws)]) (js := [2, 3, 4]) (vr 0) (eg_tup rfl (.cons (eg_name 2 sc_is_plan.nd) (.cons (eg_name 3 sc_is_plan.nd) (.cons (eg_name 4 sc_is_plan.nd) .nil rfl) rfl) rfl)) ?_
        have step : PyData.bool (isPlanD (.tuple [.tuple hs, .tuple os, .tuple ws])) = .bool ((decide (1 ≤ hs.length) && decide (hs.length ≤ 4)) && ((hs.all fun x => isBetween x 0 40) && ((decide (1 ≤ os.length) && decide (os.length ≤ 4)) && ((os.all fun x => isObjD hs.length x) && (decide (ws.length ≤ 8) && ws.all fun x => isWishD hs.length os x))))) := rfl
        have dec : ∀ a b : Nat, decide ((a : Int) ≤ (b : Int)) = decide (a ≤ b) := fun a b => by
          rw [Bool.eq_iff_iff, decide_eq_true_iff, decide_eq_true_iff]; omega
        have d1 : ∀ a : Nat, (decide ((1 : Int) ≤ (a : Int)) && decide ((a : Int) ≤ 4)) = (decide (1 ≤ a) && decide (a ≤ 4)) := fun a => by
          rw [show (1 : Int) = ((1 : Nat) : Int) from rfl, show (4 : Int) = ((4 : Nat) : Int) from rfl, dec, dec]
        refine hs_if0 (b := !(decide (1 ≤ hs.length) && decide (hs.length ≤ 4)) || !((hs.map fun x => isBetween x 0 40).all id)) (et_or _ _ (et_eq' (et_not (et_lele ev_int (ev_lenT (by rfl) B.len (vr 2)) ev_int)) (by rw [d1])) fun _ => ew_or1 (et_not (et_val (ev_all rfl (by rfl) B.all (ev_lcE0 (xs := hs) (enc := fun x => x) (enc' := PyData.bool) (f := fun x => isBetween x 0 40) rfl sc_is_plan.nd
          (Lc.mk1 [("one", 1)] (fun x => [.dat (.tuple [.tuple hs, .tuple os, .tuple ws]), .dat x, .dat (.tuple hs), .dat (.tuple os), .dat (.tuple ws)]) (ei_eq (ei_tup (vr 2)) (List.map_id _).symm) (blkOk_by (N := n_is_plan) (sc := defScope s_is_plan) (by decide +kernel)) rfl
            (fun x _ s H C cl fp => eg_name 1 sc_is_plan.nd) (fun _ _ => rfl) (fun _ _ => rfl) (fun x _ s H C cl fp => pts_yes)
            (fun x _ _ s H C cl fp => ev_call h_is_between (x, 0, 40) hr (by rfl) (ea_cons (vr 1) (ea_cons ev_int (ea_cons ev_int ea_nil))) trivial))))))) (fun h1 => hs_ret ev_bl (no ?_)) fun h1 => ?_
        · rw [PyData.bool.inj step]
          rw [List.all_map, Function.id_comp] at h1
          rw [Bool.or_eq_true, Bool.not_eq_true', Bool.not_eq_true'] at h1
          rcases h1 with h1 | h1
          · rw [h1]; rfl
          · rw [h1]; simp
        · rw [List.all_map, Function.id_comp, Bool.or_eq_false_iff, Bool.not_eq_false', Bool.not_eq_false'] at h1
          refine hs_if0 (b := !(decide (1 ≤ os.length) && decide (os.length ≤ 4)) || !((os.map fun x => isObjD hs.length x).all id)) (et_or _ _ (et_eq' (et_not (et_lele ev_int (ev_lenT (by rfl) B.len (vr 3)) ev_int)) (by rw [d1])) fun _ => ew_or1 (et_not (et_val (ev_all rfl (by rfl) B.all (ev_lcE0 (xs := os) (enc := fun x => x) (enc' := PyData.bool) (f := fun x => isObjD hs.length x) rfl sc_is_plan.nd
            (Lc.mk1 [("one", 1)] (fun x => [.dat (.tuple [.tuple hs, .tuple os, .tuple ws]), .dat x, .dat (.tuple hs), .dat (.tuple os), .dat (.tuple ws)]) (ei_eq (ei_tup (vr 3)) (List.map_id _).symm) (blkOk_by (N := n_is_plan) (sc := defScope s_is_plan) (by decide +kernel)) rfl
              (fun x _ s H C cl fp => eg_name 1 sc_is_plan.nd) (fun _ _ => rfl) (fun _ _ => rfl) (fun x _ s H C cl fp => pts_yes)
              (fun x _ _ s H C cl fp => ev_call h_is_object ((hs.length : Int), x) hr (by rfl) (ea_cons (ev_lenT (by rfl) B.len (vr 2)) (ea_cons (vr 1) ea_nil)) trivial))))))) (fun h2 => hs_ret ev_bl (no ?_)) fun h2 => ?_
          · rw [PyData.bool.inj step, h1.1, h1.2]
            rw [List.all_map, Function.id_comp] at h2
            rw [Bool.or_eq_true, Bool.not_eq_true', Bool.not_eq_true'] at h2
            rcases h2 with h2 | h2
            · rw [h2]; rfl
            · rw [h2]; simp
          · rw [List.all_map, Function.id_comp, Bool.or_eq_false_iff, Bool.not_eq_false', Bool.not_eq_false'] at h2
            refine hs_ret (d := .bool (decide (ws.length ≤ 8) && (ws.map fun x => isWishD hs.length os x).all id)) (ev_and (ev_eq' (ev_le (ev_lenT (by rfl) B.len (vr 4)) ev_int) (by rw [show (8 : Int) = ((8 : Nat) : Int) from rfl, dec])) fun _ => ev_one (ev_all rfl (by rfl) B.all (ev_lcE0 (xs := ws) (enc := fun x => x) (enc' := PyData.bool) (f := fun x => isWishD hs.length os x) rfl sc_is_plan.nd
              (Lc.mk1 [("one", 1)] (fun x => [.dat (.tuple [.tuple hs, .tuple os, .tuple ws]), .dat x, .dat (.tuple hs), .dat (.tuple os), .dat (.tuple ws)]) (ei_eq (ei_tup (vr 4)) (List.map_id _).symm) (blkOk_by (N := n_is_plan) (sc := defScope s_is_plan) (by decide +kernel)) rfl
                (fun x _ s H C cl fp => eg_name 1 sc_is_plan.nd) (fun _ _ => rfl) (fun _ _ => rfl) (fun x _ s H C cl fp => pts_yes)
                (fun x _ _ s H C cl fp => ev_call h_is_wish ((hs.length : Int), os, x) hr (by rfl) (ea_cons (ev_lenT (by rfl) B.len (vr 2)) (ea_cons (vr 3) (ea_cons (vr 1) ea_nil))) (List.all_eq_true.mp h2.2)))))) ?_
            show PyData.bool _ = _
            rw [PyData.bool.inj step, h1.1, h1.2, h2.1, h2.2, List.all_map]
            rfl
    · refine hs_if0 (b := true) (et_orF (et_nt (et_val (ev_isTup (by rfl) B.isinstance (by rfl) B.tuple (vr 0)))) (ew_orT (et_ne hr (ev_lenT (by rfl) B.len (vr 0)) ev_int rfl rfl ?_))) (fun _ => hs_ret ev_bl (no ?_)) (fun z => nomatch z)
      · rw [eqI]
        simp only [Bool.not_eq_true', decide_eq_false_iff_not]
        omega
      · unfold isPlanD
        split
        · rename_i heq
          cases heq
          exact absurd rfl hl
        · rfl
  · have ht' : isTup d = false := by simpa using ht
    refine hs_if0 (b := true) (et_orT (et_eq' (et_not (et_val (ev_isTup (by rfl) B.isinstance (by rfl) B.tuple (vr 0)))) (by rw [ht']; rfl))) (fun _ => hs_ret ev_bl ?_) (fun z => nomatch z)
    cases d <;> first | rfl | cases ht'

abbrev s_check_plan : Stmt := topS 17
abbrev n_check_plan : List Str := ["plan"]
theorem sc_check_plan : FnScope n_check_plan ["plan"] (defScope s_check_plan) := ⟨rfl, rfl, rfl, by decide +kernel, rfl, by decide +kernel, by decide +kernel⟩
theorem d_check_plan {f fd} (A : DefAt K mg "check_plan" s_check_plan ["plan"] f fd) (B : Bt mg) (h_is_plan : Def P w K mg base 3 "is_plan" ["value"] c_is_plan) : Def P w K mg base 4 "check_plan" ["plan"] c_check_plan := by
  refine def_mk A sc_check_plan (fun _ => rfl) fun p hp cdv Ar outer s H E hr => ?_
  show HSs _ _ [.dat (eP p)] _
  exact hs_if0 (b := false) (et_nt (et_val (ev_call h_is_plan (eP p) hr (by rfl) (ea_cons (vr 0) ea_nil) trivial)) (by show (!isPlanD (eP p)) = false; rw [isPlan_ok hp]; rfl)) (fun z => nomatch z) fun _ => hs_nil rfl

abbrev s_Desk___init__ : Stmt := inClass (topS 33) 0
abbrev n_Desk___init__ : List Str := ["self", "plan"]
theorem sc_Desk___init__ : FnScope n_Desk___init__ ["self", "plan"] (defScope s_Desk___init__) := ⟨rfl, rfl, rfl, by decide +kernel, rfl, by decide +kernel, by decide +kernel⟩
theorem d_Desk___init__ {C : Addr} (T : DskT K C) {f fd} (A : IniAt K mg C "Desk" "Desk.__init__" s_Desk___init__ ["self", "plan"] f fd) (B : Bt mg) (h_check_plan : Def P w K mg base 4 "check_plan" ["plan"] c_check_plan) : MakI P w K mg base 5 C "Desk" ["self", "plan"] c_check_plan := by
  obtain ⟨g, gd, G1, G2, G3, G4⟩ := h_check_plan
  refine ⟨f, fd, A.fn.ok sc_Desk___init__ (fun vs H Q E ⟨O0, x, dx, vp, d, a, e, _⟩ => by rw [e]; rfl) (fun cdv Ar outer s H vs Q E hr ⟨O0, x, dx, vp, d, a, e, he, hp, al, x0, hx, rv, kt⟩ => ?_), A.mk_, A.at_, A.kw⟩
  subst e
  refine ⟨_, pss_cons (ps_expr (pe_call G1 (hr.mono (by decide)) (by rfl) G2 G3 G4.bd .nil pass0 (pa_cons (pv 1) pa_nil)) rfl) (pss_cons (ps_fld (pv 0) (pv 1) rfl) (pss_cons (ps_fld (pv 0) (pe_tup pa_nil) rfl) (pss_cons (ps_fld (pv 0) (pe_lst pa_nil) rfl) (pss_one (ps_fld (pv 0) (pe_lst pa_nil) rfl))))), ?_⟩
  refine ⟨vp, rfl, ?_⟩
  refine ⟨[x] ++ O0, a, hp, fun b hb => ?_, by rw [he]; exact .cons rv .nil, fun v d' H1 e1 hd r => ?_⟩
  · rcases List.mem_append.mp hb with z | z
    · rw [List.mem_singleton.mp z, hx]; exact fun z => nomatch z
    · exact al b z
  refine ⟨vp, rfl, .ref x, rfl, x, C, dx, [], rfl, e1 _ _ hx, T.cl, T.np, (by show 0 < 1000; decide), ?_⟩
  refine ⟨Nat.zero_le _, fun pt hpt => ?_⟩
  have npx : pt ≠ x := fun z => by rw [z, upd_same] at hpt; cases hpt
  refine ⟨.ref x, rfl, x, C, dx, _, rfl, by rw [upd_ne (Ne.symm npx)]; exact upd_same, T.cl, T.ns, (by rw [putF1]; show 1 < 1000; decide), ?_⟩
  refine ⟨Nat.zero_le _, fun l hl => ?_⟩
  have nlx : l ≠ x := fun z => by rw [z, upd_same] at hl; cases hl
  refine ⟨.ref x, rfl, x, C, dx, _, rfl, by rw [upd_ne (Ne.symm nlx)]; exact upd_same, T.cl, T.nd, (by rw [putF2]; show 2 < 1000; decide), ?_⟩
  refine ⟨Nat.zero_le _, fun u hu => ?_⟩
  have nux : u ≠ x := fun z => by rw [z, upd_same] at hu; cases hu
  refine ⟨.ref x, rfl, x, C, dx, _, rfl, by rw [upd_ne (Ne.symm nux)]; exact upd_same, T.cl, T.nu, (by rw [putF3]; show 3 < 1000; decide), ?_⟩
  rw [putF4]
  obtain ⟨n1, n2, n3, n4⟩ := ini_end hx x0 rv al e1 hpt hl hu
  exact kt l u _ n1 n2 n3 n4

theorem d_check_plan_x {f fd} (A : DefAt K mg "check_plan" s_check_plan ["plan"] f fd) (B : Bt mg) (M : ErrM K mg cl CS) (h_is_plan : Def P w K mg base 3 "is_plan" ["value"] c_is_plan) : DefX P w K mg base 4 "check_plan" ["plan"] cl x_check_plan := by
  refine defX_mk A sc_check_plan (fun _ => rfl) fun (d : PyData) (hd : isPlanD d = false) cdv Ar outer s H E hr tk px => ?_
  exact he_if0 (b := true) (et_eq' (et_not (et_val (ev_call h_is_plan d hr (by rfl) (ea_cons (vr 0) ea_nil) trivial))) (by rw [hd]; rfl)) (fun _ => he_raise M.t .plan (M.me .plan) rfl tk (by rfl) rfl) (fun z => nomatch z)

theorem d_Desk___init___x {C : Addr} (T : DskT K C) {f fd} (A : IniAt K mg C "Desk" "Desk.__init__" s_Desk___init__ ["self", "plan"] f fd) (B : Bt mg) (M : ErrM K mg cl CS) (h_check_plan_x : DefX P w K mg base 4 "check_plan" ["plan"] cl x_check_plan) : MakX P w K mg base 5 C "Desk" ["self", "plan"] cl x_check_plan := by
  refine ⟨f, fd, spIX_mk A.fn sc_Desk___init__ (fun _ => rfl) fun (d : PyData) (hd : isPlanD d = false) cdv Ar outer s H E hr tk px => ?_, A.mk_, A.at_, A.kw⟩
  exact he_call h_check_plan_x d hr px (by rfl) (ea_cons (vr 1) ea_nil) hd rfl

abbrev st20 (K : PySem.W.Frag) (sa : Addr) (ns : List Int) (t r : Addr) (x : Int) (p : Plan) (dk : SD) (tl : List SD) : List SD := .mt (scr K sa ns) :: .mt (twn t r) :: .dat (.int x) :: .dat (eP p) :: dk :: .dat (eLT (goodOnes p)) :: tl
theorem nm_ret (k : Ek) : PyData.eqv (.str k.nm) (.str "returns") = false := by cases k <;> decide +kernel
theorem histD_app (dn : List Ent) (e : Ent) : histD (dn ++ [e]) = .tuple ((dn.map fun e => eOp e.1) ++ [eOp e.1]) := by unfold histD; rw [List.map_append]; rfl
def odd20 (p : Plan) : List PyData := [.none, .int (-1), .int (p.wishes.length : Nat), .bool true, .str "0"]
theorem odd20_bad {p : Plan} {d : PyData} (h : d ∈ odd20 p) : isBetween d 0 ((p.wishes.length : Int) - 1) = false := by
  simp only [odd20, List.mem_cons, List.not_mem_nil, or_false] at h
  rcases h with h | h | h | h | h <;> subst h
  · rfl
  · exact between_no (by omega)
  · exact between_no (by omega)
  · rfl
  · rfl
abbrev s_law : Stmt := topS 46
abbrev n_law : List Str := ["_law_script", "_law_town", "_law_k", "_law_plan_here", "_law_desk", "_law_goods_here", "_law_some", "_law_history", "_law_many", "_law_j", "_law_operation_here", "_law_due_here", "_law_odd", "_law_answers", "#"]
theorem sc_law : FnScope n_law ["_law_script"] (defScope s_law) := ⟨rfl, rfl, rfl, by decide +kernel, rfl, by decide +kernel, by decide +kernel⟩
theorem d_law {C : Addr} (T : DskT K C) {f c Pt : Addr} {oc kV dc pm ct : Value} {an od : Option Addr} {sl : Array (Option Value)} {TT : List (Addr × Str)} (lk : K.lookup f = some ⟨oc, od, .func (PySem.W.fnOf "law" "law" (defArgs s_law) (defBody s_law) (defScope s_law) .none kV dc pm an (.ref c) ct), sl⟩) (hcd : PySem.W.codeIn K (.ref c) "law" = true) (TB : LamX.TabB base mg c Pt) (hTm : (Pt, (("law" : Str) ++ (".<locals>." : Str)) ++ ("<lambda>" : Str)) ∈ TT) (hT : ∀ p ∈ TT, p.1 = Pt → p.2 = (("law" : Str) ++ (".<locals>." : Str)) ++ ("<lambda>" : Str)) (B : Bt mg) (M : ErrM K mg cl CS) (h_law_begun : DefB P w K mg base 1 "_law_begun") (h_law_plan : DefT P w K mg base 2 "_law_plan" ["_law_script", "_law_town", "_law_most"] c_law_plan) (h_law_goods : Def P w K mg base 2 "_law_goods" ["_law_plan_here"] c_good_ones) (h_law_operation : DefT P w K mg base 2 "_law_operation" ["_law_script", "_law_town", "_law_many"] c_law_operation) (h_law_due : Def P w K mg base 2 "_law_due" ["_law_plan_here", "_law_some", "_law_operation_here"] c_law_due) (h_law_call : DefD P w K mg base 6 C "_law_call" ["_law_desk", "_law_operation_here"] c_law_call) (h_law_call_x : DefRX P w K mg base 6 C "_law_call" ["_law_desk", "_law_operation_here"] cl x_law_call) (h_law_agrees : DefRd P w K mg base 6 C "_law_agrees" ["_law_desk", "_law_plan_here", "_law_goods_here", "_law_some", "_law_history"] c_law_agrees) (h_law_result : ∀ k, DefR P w K mg base (k + 1) "_law_result" cl) (h_law_result_x : ∀ k, DefQ P w K mg base (k + 1) "_law_result" cl) (h_Desk___init__ : MakI P w K mg base 5 C "Desk" ["self", "plan"] c_check_plan) (h_Desk___init___x : MakX P w K mg base 5 C "Desk" ["self", "plan"] cl x_check_plan) (h_Desk_grant_x : MetX P w K mg base 5 C "grant" ["self", "wish"] cl x_grant) (h_Desk_refuse_x : MetX P w K mg base 3 C "refuse" ["self", "wish"] cl x_refuse) : FnOk P w K mg base CX0 9 f (PySem.W.fnOf "law" "law" (defArgs s_law) (defBody s_law) (defScope s_law) .none kV dc pm an (.ref c) ct) ["_law_script"] (spLawT K TT) := by
  refine law_mkT (n := "#") (m := 13) lk hcd sc_law rfl rfl (by decide +kernel) fun sa ns hn Ar outer s H E hr => ?_
  show HSs _ _ (.mt (scr K sa ns) :: (List.replicate 13 SD.un ++ [.mt (tabM TT)])) _
  refine hs_begun h_law_begun hr (by rfl) sc_law.nd rfl (by first | exact Or.inl rfl | exact Or.inr rfl) fun t r => ?_
  refine hs_forD (xs := rangeD 0 4) (enc := PyData.int) (fun _ => .mt (scr K sa ns) :: .mt (twn t r) :: (List.replicate 12 SD.un ++ [.mt (tabM TT)])) PassesOwn.never rfl (ei_range1 (n := 4) (by rfl) B.range ev_int (by decide) (by decide)) rfl (fun i x hx => ?_) (hs_ret ev_bl rfl)
  refine ⟨_, [2], eg_name 2 sc_law.nd, ?_⟩
  refine hs_setN (i := 3) (D := c_law_plan.res (6 : Int)) sc_law.nd rfl (by first | exact Or.inl rfl | exact Or.inr rfl) rfl (evn_callT h_law_plan 0 1 hr (by rfl) (ea_cons ev_int ea_nil) (fun ds e => ⟨(6 : Int), e.symm, ⟨by decide, by decide⟩, fun d h => h⟩)) fun d ⟨p, hd, hp, h8⟩ => ?_
  subst hd
  have ok := hp.ok (by omega)
  have hw8 := ok.w8
  have h6 : p.wishes.length ≤ 6 := by omega
  refine hs_asgW (C := C) (D := newD (eP p)) (d := eLT (goodOnes p)) (i := 4) (j := 5) rfl sc_law.nd rfl (by first | exact Or.inl rfl | exact Or.inr rfl) rfl (by first | exact Or.inl rfl | exact Or.inr rfl) rfl rfl (by decide) (ew_makeK h_Desk___init__ p hr (by rfl) (vr 3) ok) (ev_call h_law_goods p hr (by rfl) (ea_cons (vr 3) ea_nil) ok) fun X l0 u0 => ?_
  refine hs_asg (ev_tup (ea_cons (ev_tup ea_nil) (ea_cons (ev_tup ea_nil) ea_nil))) (eg_tup (js := [6, 7]) rfl (.cons (eg_name 6 sc_law.nd) (.cons (eg_name 7 sc_law.nd) .nil rfl) rfl)) ?_
  refine hs_set (i := 8) (d := .int (p.wishes.length : Nat)) sc_law.nd rfl (by first | exact Or.inl rfl | exact Or.inr rfl) rfl (ev_eq' (ev_lenT (by rfl) B.len (ev_ix (vr 3) ev_int rfl)) (by rw [List.length_map])) ?_
  show HSs _ _ (st20 K sa ns t r x p (.mt (dskM C X l0 u0 (dsk p [] [] []))) (.dat (eT []) :: .dat (histD []) :: .dat (.int (p.wishes.length : Nat)) :: (List.replicate 5 SD.un ++ [.mt (tabM TT)]))) _
  refine hs_for (E := Eq ((rangeD 0 8).map PyData.int)) (fun _ j ρ => ∃ (s : List Int) (dn : List Ent) (l u : Addr), SomeOk p s ∧ good p s = true ∧ dn.length ≤ j ∧ ρ = st20 K sa ns t r x p (.mt (dskM C X l u (dsk p s dn []))) (.dat (eT s) :: .dat (histD dn) :: .dat (.int (p.wishes.length : Nat)) :: (List.replicate 5 SD.un ++ [.mt (tabM TT)]))) (fun _ => False) PassesOwn.never rfl (ei_range1 (n := 8) (by rfl) B.range ev_int (by decide) (by decide)) ?_ ?_ ?_ (fun _ z => z.elim)
  · rintro ds rfl
    exact ⟨[], [], l0, u0, ⟨by simp, by simp, rfl⟩, good_nil ok, Nat.le_refl _, rfl⟩
  · rintro ds j d ρ1 rfl hd ⟨s, dn, l, u, hs, hg, hl, rfl⟩
    have hj : j < 8 := by
      have := (List.getElem?_eq_some_iff.mp hd).1
      rw [List.length_map, rangeD_len] at this
      exact this
    obtain ⟨y, hy, rfl⟩ := map_get hd
    have hsl := hs.len
    refine ⟨st20 K sa ns t r x p (.mt (dskM C X l u (dsk p s dn []))) (.dat (eT s) :: .dat (histD dn) :: .dat (.int (p.wishes.length : Nat)) :: .dat (.int y) :: (List.replicate 4 SD.un ++ [.mt (tabM TT)])), [9], eg_name 9 sc_law.nd, ?_⟩
    refine hs_setN (i := 10) (D := fun d => ∃ o : Op, d = eOp o ∧ 0 ≤ o.2 ∧ o.2 ≤ p.wishes.length) sc_law.nd rfl (by first | exact Or.inl rfl | exact Or.inr rfl) rfl (evn_callT h_law_operation 0 1 hr (by rfl) (ea_cons (vr 8) ea_nil) (fun ds e => ⟨p.wishes.length, e.symm, (by omega : _ ≤ 100), fun d h => h⟩)) fun d ⟨o, hd, o0, o1⟩ => ?_
    subst hd
    refine hs_asg (ev_call h_law_due (p, s, o) hr (by rfl) (ea_cons (vr 3) (ea_cons (vr 6) (ea_cons (vr 10) ea_nil))) ⟨ok, hs, o0⟩) (eg_tup (js := [11, 6]) rfl (.cons (eg_name 11 sc_law.nd) (.cons (eg_name 6 sc_law.nd) .nil rfl) rfl)) ?_
    show HSs _ _ (st20 K sa ns t r x p (.mt (dskM C X l u (dsk p s dn []))) (.dat (eT (opS p s o)) :: .dat (histD dn) :: .dat (.int (p.wishes.length : Nat)) :: .dat (.int y) :: .dat (eOp o) :: .dat (opO p s o).d :: (List.replicate 2 SD.un ++ [.mt (tabM TT)]))) _
    obtain ⟨hs', hg'⟩ := opS_some ok o0 hs hg
    refine hs_ifS0 (M := Dk (st20 K sa ns t r x p (.mt (dskM C X l u (dsk p s dn []))) (.dat (eT (opS p s o)) :: .dat (histD dn) :: .dat (.int (p.wishes.length : Nat)) :: .dat (.int y) :: .dat (eOp o) :: .dat (opO p s o).d :: (List.replicate 2 SD.un ++ [.mt (tabM TT)]))) 4 C X (dsk p (opS p s o) (opH p s o dn) [])) (ets_ne hr (ev_lam2 (o := opO p s o) (h_law_result_x _) 14 hr (by rfl) TB rfl hTm hT (LamX.lamS_by (sc := defScope s_law) (by decide +kernel)) (fun A' outer' s' H' E' f' c' hr2 px => by
      by_cases hG : opG p s o
      · rw [(opO_val hG).1, show opH p s o dn = dn ++ [(o, s)] from if_pos hG]
        exact exs_val (evs_callD (c := c_law_call) (x := X) h_law_call 4 ((p, s, dn, []), o) hr2 (by rfl) (ea_cons (vr 10) ea_nil) ⟨ok, hs, o0, hG, by show dn.length + 1 ≤ 4096; omega⟩)
      · obtain ⟨k, e1, e2, e3⟩ := opO_err o0 hG
        rw [e1, e2, show opH p s o dn = dn from if_neg hG]
        exact exs_err (ex_callRX (c := x_law_call) (x := X) h_law_call_x 4 ((p, s, dn, []), o, k) hr2 px (by rfl) (ea_cons (vr 10) ea_nil) ⟨ok, hs, e3⟩) ⟨l, u, rfl⟩)) (fun r hm => by
      obtain ⟨l', u', rfl⟩ := hm
      exact vr 11) (opO_shp ..) (opO_shp ..) (by rw [opO_eqv]; rfl)) fun r2 hm => ?_
    obtain ⟨l', u', rfl⟩ := hm
    show HSs _ _ (st20 K sa ns t r x p (.mt (dskM C X l' u' (dsk p (opS p s o) (opH p s o dn) []))) (.dat (eT (opS p s o)) :: .dat (histD dn) :: .dat (.int (p.wishes.length : Nat)) :: .dat (.int y) :: .dat (eOp o) :: .dat (opO p s o).d :: (List.replicate 2 SD.un ++ [.mt (tabM TT)]))) _
    have lH : (opH p s o dn).length ≤ j + 1 := by
      unfold opH
      split
      · rw [List.length_append]; simp; omega
      · omega
    refine hs_set (i := 7) (d := histD (opH p s o dn)) sc_law.nd rfl (by first | exact Or.inl rfl | exact Or.inr rfl) rfl ?_ ?_
    · by_cases hG : opG p s o
      · rw [(opO_val hG).1, show opH p s o dn = dn ++ [(o, s)] from if_pos hG, histD_app]
        exact ev_catT (vr 7) (ev_if (d' := .none) (k := true) (et_eq hr (ev_ix (vr 11) ev_int rfl) ev_str (shp_str _ (by decide +kernel)).ok (shp_str _ (by decide +kernel)).ok (eqv_str _)) (fun _ => ev_tup (ea_cons (vr 10) ea_nil)) (fun z => nomatch z)) (by rw [List.length_map]; show dn.length + 1 ≤ 4096; omega)
      · obtain ⟨k, e1, e2, e3⟩ := opO_err o0 hG
        rw [e1, show opH p s o dn = dn from if_neg hG]
        exact ev_eq' (ev_catT (vr 7) (ev_if (d' := .none) (k := false) (et_eq hr (ev_ix (vr 11) ev_int rfl) ev_str (by cases k <;> exact (shp_str _ (by decide +kernel)).ok) (shp_str _ (by decide +kernel)).ok (nm_ret k)) (fun z => nomatch z) (fun _ => ev_tup ea_nil)) (by rw [List.length_map]; show dn.length + 0 ≤ 4096; omega)) (by rw [List.append_nil]; rfl)
    refine hs_if0 (b := false) (et_nt (et_val (ev_callRd (c := c_law_agrees) (x := X) h_law_agrees 4 (p, opS p s o, opH p s o dn, []) hr (by rfl) (ea_cons (vr 3) (ea_cons (vr 5) (ea_cons (vr 6) (ea_cons (vr 7) ea_nil)))) ⟨ok, hs', hg', by show (opH p s o dn).length ≤ 64; omega⟩ rfl))) (fun z => nomatch z) fun _ => ?_
    exact hs_nilW [9, 10, 11] ⟨opS p s o, opH p s o dn, l', u', hs', hg', lH, rfl⟩
  rintro ds ρ1 rfl ⟨s, dn, l, u, hs, hg, hl, rfl⟩
  refine hs_forD (xs := odd20 p) (enc := fun d => d) (fun _ => st20 K sa ns t r x p (.mt (dskM C X l u (dsk p s dn []))) (.dat (eT s) :: .dat (histD dn) :: .dat (.int (p.wishes.length : Nat)) :: (List.replicate 5 SD.un ++ [.mt (tabM TT)]))) PassesOwn.never rfl
    (ei_tup (ev_eq' (ev_tup (ea_cons ev_non (ea_cons (ev_neg ev_int) (ea_cons (vr 8) (ea_cons ev_bl (ea_cons ev_str ea_nil)))))) (by rw [List.map_id']; rfl))) rfl (fun n d hd => ?_) ?_
  · have hbad := odd20_bad (List.mem_of_getElem? hd)
    refine ⟨st20 K sa ns t r x p (.mt (dskM C X l u (dsk p s dn []))) (.dat (eT s) :: .dat (histD dn) :: .dat (.int (p.wishes.length : Nat)) :: .un :: .un :: .un :: .dat d :: .un :: [.mt (tabM TT)]), [12], eg_name 12 sc_law.nd, ?_⟩
    refine hs_setF (i := 13) sc_law.nd rfl (by first | exact Or.inl rfl | exact Or.inr rfl) rfl (ef_lst (ea_cons (ev_lam (o := .err .number) (h_law_result _) 14 hr (by rfl) TB rfl hTm hT (LamX.lamS_by (sc := defScope s_law) (by decide +kernel)) (fun A' outer' s' H' E' f' c' hr2 px => ex_methX (c := x_grant) (x := X) h_Desk_grant_x 4 ((p, s, dn, []), d, .number) hr2 px T (ea_cons (vr 12) ea_nil) ⟨ok, hs, Or.inl ⟨rfl, hbad⟩⟩)) ea_nil) (fun ds e => by rw [← e]; exact Nat.le_of_ble_eq_true rfl)) fun ds e => ?_
    subst e
    refine hs_appendN (i := 13) rfl (by first | exact Or.inl rfl | exact Or.inr (Or.inl rfl)) rfl (ev_lam (o := .err .number) (h_law_result _) 14 hr (by rfl) TB rfl hTm hT (LamX.lamS_by (sc := defScope s_law) (by decide +kernel)) (fun A' outer' s' H' E' f' c' hr2 px => ex_methX (c := x_refuse) (x := X) h_Desk_refuse_x 4 ((p, s, dn, []), d, .number) hr2 px T (ea_cons (vr 12) ea_nil) ⟨ok, hs, Or.inl ⟨rfl, hbad⟩⟩)) (Nat.le_of_ble_eq_true rfl) fun d' e => ?_
    subst e
    refine hs_freeze 13 rfl ?_
    refine hs_if0 (b := false) (et_eq' (et_ne hr (vr 13) (ev_repL (k := 2) (ev_lst (ea_cons (ev_tup (ea_cons ev_str ea_nil)) ea_nil)) ev_int (by decide) (by decide) (by decide)) (by decide +kernel) (by decide +kernel) rfl) (by decide +kernel)) (fun z => nomatch z) fun _ => hs_nilW [12, 13] rfl
  refine hs_if0 (b := false) (et_eq' (et_ne hr (ev_lam (o := .err .plan) (h_law_result _) 14 hr (by rfl) TB rfl hTm hT (LamX.lamS_by (sc := defScope s_law) (by decide +kernel)) (fun A' outer' s' H' E' f' c' hr2 px => ex_make (cx := x_check_plan) h_Desk___init___x (.tuple [.tuple (p.houses.map PyData.int), .tuple (p.objects.map eO)]) hr2 px (by rfl) (ea_cons (ev_eq' (ev_slT (vr 3) eo_none (eo_some ev_int)) rfl) ea_nil) rfl)) (ev_tup (ea_cons ev_str ea_nil)) (shp_err _) (shp_err .plan) rfl) (by show (!PyData.eqv (Out.err .plan).d (Out.err .plan).d) = false; rw [eqv_err]; rfl)) (fun z => nomatch z) fun _ => ?_
  exact hs_dropMt 4 (hs_nilW [2, 3, 5, 6, 7, 8] rfl)

end
theorem all_mk {l : PySem.W.OpenLaw} {w : World} {K : PySem.W.Frag} {h : Heap} {mg : Str → Option Value} {fa f0 f1 f2 f3 f4 f5 f6 f7 f8 f9 f10 f11 f12 f13 f14 f15 f16 f17 f18 f19 f20 f21 f22 f23 f24 f25 f26 f27 f28 f29 f30 f31 f32 f33 f34 f35 f36 f37 f38 f39 : Addr} (X : K.In h) (G : h.Ns mainGlobals mg) (hfa : mg "law" = some (.ref fa))
    {od0 an0 od1 an1 od2 an2 od3 an3 od4 an4 od5 an5 od6 an6 od7 an7 od8 an8 od9 an9 od10 an10 od11 an11 od12 an12 od13 an13 od14 an14 od15 an15 od16 an16 od17 an17 od18 an18 od19 an19 od20 an20 od21 an21 od22 an22 od23 an23 od24 an24 od25 an25 od26 an26 od27 an27 od28 an28 od29 an29 od30 an30 od31 an31 od32 an32 od33 an33 od34 an34 od35 an35 od36 an36 od37 an37 od38 an38 od39 an39 : Option Addr} {sl0 sl1 sl2 sl3 sl4 sl5 sl6 sl7 sl8 sl9 sl10 sl11 sl12 sl13 sl14 sl15 sl16 sl17 sl18 sl19 sl20 sl21 sl22 sl23 sl24 sl25 sl26 sl27 sl28 sl29 sl30 sl31 sl32 sl33 sl34 sl35 sl36 sl37 sl38 sl39 : Array (Option Value)} {oc0 kV0 dc0 pm0 ct0 cd0 oc1 kV1 dc1 pm1 ct1 cd1 oc2 kV2 dc2 pm2 ct2 cd2 oc3 kV3 dc3 pm3 ct3 cd3 oc4 kV4 dc4 pm4 ct4 cd4 oc5 kV5 dc5 pm5 ct5 cd5 oc6 kV6 dc6 pm6 ct6 cd6 oc7 kV7 dc7 pm7 ct7 cd7 oc8 kV8 dc8 pm8 ct8 cd8 oc9 kV9 dc9 pm9 ct9 cd9 oc10 kV10 dc10 pm10 ct10 cd10 oc11 kV11 dc11 pm11 ct11 cd11 oc12 kV12 dc12 pm12 ct12 cd12 oc13 kV13 dc13 pm13 ct13 cd13 oc14 kV14 dc14 pm14 ct14 cd14 oc15 kV15 dc15 pm15 ct15 cd15 oc16 kV16 dc16 pm16 ct16 cd16 oc17 kV17 dc17 pm17 ct17 cd17 oc18 kV18 dc18 pm18 ct18 cd18 oc19 kV19 dc19 pm19 ct19 cd19 oc20 kV20 dc20 pm20 ct20 cd20 oc21 kV21 dc21 pm21 ct21 cd21 oc22 kV22 dc22 pm22 ct22 cd22 oc23 kV23 dc23 pm23 ct23 cd23 oc24 kV24 dc24 pm24 ct24 cd24 oc25 kV25 dc25 pm25 ct25 cd25 oc26 kV26 dc26 pm26 ct26 cd26 oc27 kV27 dc27 pm27 ct27 cd27 oc28 kV28 dc28 pm28 ct28 cd28 oc29 kV29 dc29 pm29 ct29 cd29 oc30 kV30 dc30 pm30 ct30 cd30 oc31 kV31 dc31 pm31 ct31 cd31 oc32 kV32 dc32 pm32 ct32 cd32 oc33 kV33 dc33 pm33 ct33 cd33 oc34 kV34 dc34 pm34 ct34 cd34 oc35 kV35 dc35 pm35 ct35 cd35 oc36 kV36 dc36 pm36 ct36 cd36 oc37 kV37 dc37 pm37 ct37 cd37 oc38 kV38 dc38 pm38 ct38 cd38 oc39 kV39 dc39 pm39 ct39 : Value}
    {t_LAST : _}
    {cc39 Pt39 : Addr} {ce39 : Value} {cdd39 : Option Addr} {cvs39 : Array Value} {csl39 : Array (Option Value)} (kc39 : K.lookup cc39 = some ⟨ce39, cdd39, .fields cvs39, csl39⟩) (kP39 : cvs39[11]? = some (.ref Pt39)) (nP39 : PySem.W.typeIn K (.ref Pt39) = none)
    {C : Addr} (aC : PySem.W.nsIn K mainGlobals "Desk" = some (some (.ref C)))
    (a0 : PySem.W.nsIn K mainGlobals "_law_begun" = some (some (.ref f0))) (l0 : K.lookup f0 = some ⟨oc0, od0, .func (PySem.W.fnOf "_law_begun" "_law_begun" (defArgs s_law_begun) (defBody s_law_begun) (defScope s_law_begun) .none kV0 dc0 pm0 an0 cd0 ct0), sl0⟩) (c0 : PySem.W.codeIn K cd0 "_law_begun" = true) (k0 : PySem.W.keepIn K (.ref f0) = true)
    (a1 : PySem.W.nsIn K mainGlobals "_law_draw" = some (some (.ref f1))) (l1 : K.lookup f1 = some ⟨oc1, od1, .func (PySem.W.fnOf "_law_draw" "_law_draw" (defArgs s_law_draw) (defBody s_law_draw) (defScope s_law_draw) .none kV1 dc1 pm1 an1 cd1 ct1), sl1⟩) (c1 : PySem.W.codeIn K cd1 "_law_draw" = true) (k1 : PySem.W.keepIn K (.ref f1) = true)
    (a2 : PySem.W.nsIn K mainGlobals "_law_plan" = some (some (.ref f2))) (l2 : K.lookup f2 = some ⟨oc2, od2, .func (PySem.W.fnOf "_law_plan" "_law_plan" (defArgs s_law_plan) (defBody s_law_plan) (defScope s_law_plan) .none kV2 dc2 pm2 an2 cd2 ct2), sl2⟩) (c2 : PySem.W.codeIn K cd2 "_law_plan" = true) (k2 : PySem.W.keepIn K (.ref f2) = true)
    (a3 : PySem.W.nsIn K mainGlobals "_law_subsets" = some (some (.ref f3))) (l3 : K.lookup f3 = some ⟨oc3, od3, .func (PySem.W.fnOf "_law_subsets" "_law_subsets" (defArgs s_law_subsets) (defBody s_law_subsets) (defScope s_law_subsets) .none kV3 dc3 pm3 an3 cd3 ct3), sl3⟩) (c3 : PySem.W.codeIn K cd3 "_law_subsets" = true) (k3 : PySem.W.keepIn K (.ref f3) = true)
    (a4 : PySem.W.nsIn K mainGlobals "_law_against" = some (some (.ref f4))) (l4 : K.lookup f4 = some ⟨oc4, od4, .func (PySem.W.fnOf "_law_against" "_law_against" (defArgs s_law_against) (defBody s_law_against) (defScope s_law_against) .none kV4 dc4 pm4 an4 cd4 ct4), sl4⟩) (c4 : PySem.W.codeIn K cd4 "_law_against" = true) (k4 : PySem.W.keepIn K (.ref f4) = true)
    (a5 : PySem.W.nsIn K mainGlobals "_law_goods" = some (some (.ref f5))) (l5 : K.lookup f5 = some ⟨oc5, od5, .func (PySem.W.fnOf "_law_goods" "_law_goods" (defArgs s_law_goods) (defBody s_law_goods) (defScope s_law_goods) .none kV5 dc5 pm5 an5 cd5 ct5), sl5⟩) (c5 : PySem.W.codeIn K cd5 "_law_goods" = true) (k5 : PySem.W.keepIn K (.ref f5) = true)
    (a6 : PySem.W.nsIn K mainGlobals "_law_operation" = some (some (.ref f6))) (l6 : K.lookup f6 = some ⟨oc6, od6, .func (PySem.W.fnOf "_law_operation" "_law_operation" (defArgs s_law_operation) (defBody s_law_operation) (defScope s_law_operation) .none kV6 dc6 pm6 an6 cd6 ct6), sl6⟩) (c6 : PySem.W.codeIn K cd6 "_law_operation" = true) (k6 : PySem.W.keepIn K (.ref f6) = true)
    (a7 : PySem.W.nsIn K mainGlobals "_law_due" = some (some (.ref f7))) (l7 : K.lookup f7 = some ⟨oc7, od7, .func (PySem.W.fnOf "_law_due" "_law_due" (defArgs s_law_due) (defBody s_law_due) (defScope s_law_due) .none kV7 dc7 pm7 an7 cd7 ct7), sl7⟩) (c7 : PySem.W.codeIn K cd7 "_law_due" = true) (k7 : PySem.W.keepIn K (.ref f7) = true)
    (a8 : PySem.W.nsIn K mainGlobals "is_between" = some (some (.ref f8))) (l8 : K.lookup f8 = some ⟨oc8, od8, .func (PySem.W.fnOf "is_between" "is_between" (defArgs s_is_between) (defBody s_is_between) (defScope s_is_between) .none kV8 dc8 pm8 an8 cd8 ct8), sl8⟩) (c8 : PySem.W.codeIn K cd8 "is_between" = true) (k8 : PySem.W.keepIn K (.ref f8) = true)
    (a9 : PySem.W.nsIn K mainGlobals "check_number" = some (some (.ref f9))) (l9 : K.lookup f9 = some ⟨oc9, od9, .func (PySem.W.fnOf "check_number" "check_number" (defArgs s_check_number) (defBody s_check_number) (defScope s_check_number) .none kV9 dc9 pm9 an9 cd9 ct9), sl9⟩) (c9 : PySem.W.codeIn K cd9 "check_number" = true) (k9 : PySem.W.keepIn K (.ref f9) = true)
    (a10 : PySem.W.nsIn K mainGlobals "do_rest" = some (some (.ref f10))) (l10 : K.lookup f10 = some ⟨oc10, od10, .func (PySem.W.fnOf "do_rest" "do_rest" (defArgs s_do_rest) (defBody s_do_rest) (defScope s_do_rest) .none kV10 dc10 pm10 an10 cd10 ct10), sl10⟩) (c10 : PySem.W.codeIn K cd10 "do_rest" = true) (k10 : PySem.W.keepIn K (.ref f10) = true)
    (a11 : PySem.W.nsIn K mainGlobals "tired" = some (some (.ref f11))) (l11 : K.lookup f11 = some ⟨oc11, od11, .func (PySem.W.fnOf "tired" "tired" (defArgs s_tired) (defBody s_tired) (defScope s_tired) .none kV11 dc11 pm11 an11 cd11 ct11), sl11⟩) (c11 : PySem.W.codeIn K cd11 "tired" = true) (k11 : PySem.W.keepIn K (.ref f11) = true)
    (a12 : PySem.W.nsIn K mainGlobals "weeks_of" = some (some (.ref f12))) (l12 : K.lookup f12 = some ⟨oc12, od12, .func (PySem.W.fnOf "weeks_of" "weeks_of" (defArgs s_weeks_of) (defBody s_weeks_of) (defScope s_weeks_of) .none kV12 dc12 pm12 an12 cd12 ct12), sl12⟩) (c12 : PySem.W.codeIn K cd12 "weeks_of" = true) (k12 : PySem.W.keepIn K (.ref f12) = true)
    (a13 : PySem.W.nsIn K mainGlobals "bleached" = some (some (.ref f13))) (l13 : K.lookup f13 = some ⟨oc13, od13, .func (PySem.W.fnOf "bleached" "bleached" (defArgs s_bleached) (defBody s_bleached) (defScope s_bleached) .none kV13 dc13 pm13 an13 cd13 ct13), sl13⟩) (c13 : PySem.W.codeIn K cd13 "bleached" = true) (k13 : PySem.W.keepIn K (.ref f13) = true)
    (a14 : PySem.W.nsIn K mainGlobals "value_at" = some (some (.ref f14))) (l14 : K.lookup f14 = some ⟨oc14, od14, .func (PySem.W.fnOf "value_at" "value_at" (defArgs s_value_at) (defBody s_value_at) (defScope s_value_at) .none kV14 dc14 pm14 an14 cd14 ct14), sl14⟩) (c14 : PySem.W.codeIn K cd14 "value_at" = true) (k14 : PySem.W.keepIn K (.ref f14) = true)
    (a15 : PySem.W.nsIn K mainGlobals "are_good" = some (some (.ref f15))) (l15 : K.lookup f15 = some ⟨oc15, od15, .func (PySem.W.fnOf "are_good" "are_good" (defArgs s_are_good) (defBody s_are_good) (defScope s_are_good) .none kV15 dc15 pm15 an15 cd15 ct15), sl15⟩) (c15 : PySem.W.codeIn K cd15 "are_good" = true) (k15 : PySem.W.keepIn K (.ref f15) = true)
    (a16 : PySem.W.nsIn K mainGlobals "named" = some (some (.ref f16))) (l16 : K.lookup f16 = some ⟨oc16, od16, .func (PySem.W.fnOf "named" "named" (defArgs s_named) (defBody s_named) (defScope s_named) .none kV16 dc16 pm16 an16 cd16 ct16), sl16⟩) (c16 : PySem.W.codeIn K cd16 "named" = true) (k16 : PySem.W.keepIn K (.ref f16) = true)
    (a17 : PySem.W.nsIn K mainGlobals "check_good" = some (some (.ref f17))) (l17 : K.lookup f17 = some ⟨oc17, od17, .func (PySem.W.fnOf "check_good" "check_good" (defArgs s_check_good) (defBody s_check_good) (defScope s_check_good) .none kV17 dc17 pm17 an17 cd17 ct17), sl17⟩) (c17 : PySem.W.codeIn K cd17 "check_good" = true) (k17 : PySem.W.keepIn K (.ref f17) = true)
    (a18 : PySem.W.findIn K (.ref C) "become" = some (some (.ref f18))) (i18 : PySem.W.isFn K (.ref f18) = true) (l18 : K.lookup f18 = some ⟨oc18, od18, .func (PySem.W.fnOf "become" "Desk.become" (defArgs s_Desk_become) (defBody s_Desk_become) (defScope s_Desk_become) .none kV18 dc18 pm18 an18 cd18 ct18), sl18⟩) (c18 : PySem.W.codeIn K cd18 "Desk.become" = true) (k18 : PySem.W.keepIn K (.ref f18) = true)
    (a19 : PySem.W.findIn K (.ref C) "grant" = some (some (.ref f19))) (i19 : PySem.W.isFn K (.ref f19) = true) (l19 : K.lookup f19 = some ⟨oc19, od19, .func (PySem.W.fnOf "grant" "Desk.grant" (defArgs s_Desk_grant) (defBody s_Desk_grant) (defScope s_Desk_grant) .none kV19 dc19 pm19 an19 cd19 ct19), sl19⟩) (c19 : PySem.W.codeIn K cd19 "Desk.grant" = true) (k19 : PySem.W.keepIn K (.ref f19) = true)
    (a20 : PySem.W.findIn K (.ref C) "refuse" = some (some (.ref f20))) (i20 : PySem.W.isFn K (.ref f20) = true) (l20 : K.lookup f20 = some ⟨oc20, od20, .func (PySem.W.fnOf "refuse" "Desk.refuse" (defArgs s_Desk_refuse) (defBody s_Desk_refuse) (defScope s_Desk_refuse) .none kV20 dc20 pm20 an20 cd20 ct20), sl20⟩) (c20 : PySem.W.codeIn K cd20 "Desk.refuse" = true) (k20 : PySem.W.keepIn K (.ref f20) = true)
    (a21 : PySem.W.nsIn K mainGlobals "_law_call" = some (some (.ref f21))) (l21 : K.lookup f21 = some ⟨oc21, od21, .func (PySem.W.fnOf "_law_call" "_law_call" (defArgs s_law_call) (defBody s_law_call) (defScope s_law_call) .none kV21 dc21 pm21 an21 cd21 ct21), sl21⟩) (c21 : PySem.W.codeIn K cd21 "_law_call" = true) (k21 : PySem.W.keepIn K (.ref f21) = true)
    (a22 : PySem.W.findIn K (.ref C) "granted" = some (some (.ref f22))) (i22 : PySem.W.isFn K (.ref f22) = true) (l22 : K.lookup f22 = some ⟨oc22, od22, .func (PySem.W.fnOf "granted" "Desk.granted" (defArgs s_Desk_granted) (defBody s_Desk_granted) (defScope s_Desk_granted) .none kV22 dc22 pm22 an22 cd22 ct22), sl22⟩) (c22 : PySem.W.codeIn K cd22 "Desk.granted" = true) (k22 : PySem.W.keepIn K (.ref f22) = true)
    (a23 : PySem.W.findIn K (.ref C) "history" = some (some (.ref f23))) (i23 : PySem.W.isFn K (.ref f23) = true) (l23 : K.lookup f23 = some ⟨oc23, od23, .func (PySem.W.fnOf "history" "Desk.history" (defArgs s_Desk_history) (defBody s_Desk_history) (defScope s_Desk_history) .none kV23 dc23 pm23 an23 cd23 ct23), sl23⟩) (c23 : PySem.W.codeIn K cd23 "Desk.history" = true) (k23 : PySem.W.keepIn K (.ref f23) = true)
    (a24 : PySem.W.findIn K (.ref C) "__len__" = some (some (.ref f24))) (i24 : PySem.W.isFn K (.ref f24) = true) (l24 : K.lookup f24 = some ⟨oc24, od24, .func (PySem.W.fnOf "__len__" "Desk.__len__" (defArgs s_Desk___len__) (defBody s_Desk___len__) (defScope s_Desk___len__) .none kV24 dc24 pm24 an24 cd24 ct24), sl24⟩) (c24 : PySem.W.codeIn K cd24 "Desk.__len__" = true) (k24 : PySem.W.keepIn K (.ref f24) = true)
    (a25 : PySem.W.nsIn K mainGlobals "added_to" = some (some (.ref f25))) (l25 : K.lookup f25 = some ⟨oc25, od25, .func (PySem.W.fnOf "added_to" "added_to" (defArgs s_added_to) (defBody s_added_to) (defScope s_added_to) .none kV25 dc25 pm25 an25 cd25 ct25), sl25⟩) (c25 : PySem.W.codeIn K cd25 "added_to" = true) (k25 : PySem.W.keepIn K (.ref f25) = true)
    (a26 : PySem.W.findIn K (.ref C) "options" = some (some (.ref f26))) (i26 : PySem.W.isFn K (.ref f26) = true) (l26 : K.lookup f26 = some ⟨oc26, od26, .func (PySem.W.fnOf "options" "Desk.options" (defArgs s_Desk_options) (defBody s_Desk_options) (defScope s_Desk_options) .none kV26 dc26 pm26 an26 cd26 ct26), sl26⟩) (c26 : PySem.W.codeIn K cd26 "Desk.options" = true) (k26 : PySem.W.keepIn K (.ref f26) = true)
    (a27 : PySem.W.nsIn K mainGlobals "subsets_of" = some (some (.ref f27))) (l27 : K.lookup f27 = some ⟨oc27, od27, .func (PySem.W.fnOf "subsets_of" "subsets_of" (defArgs s_subsets_of) (defBody s_subsets_of) (defScope s_subsets_of) .none kV27 dc27 pm27 an27 cd27 ct27), sl27⟩) (c27 : PySem.W.codeIn K cd27 "subsets_of" = true) (k27 : PySem.W.keepIn K (.ref f27) = true)
    (a28 : PySem.W.nsIn K mainGlobals "good_ones" = some (some (.ref f28))) (l28 : K.lookup f28 = some ⟨oc28, od28, .func (PySem.W.fnOf "good_ones" "good_ones" (defArgs s_good_ones) (defBody s_good_ones) (defScope s_good_ones) .none kV28 dc28 pm28 an28 cd28 ct28), sl28⟩) (c28 : PySem.W.codeIn K cd28 "good_ones" = true) (k28 : PySem.W.keepIn K (.ref f28) = true)
    (a29 : PySem.W.nsIn K mainGlobals "is_within" = some (some (.ref f29))) (l29 : K.lookup f29 = some ⟨oc29, od29, .func (PySem.W.fnOf "is_within" "is_within" (defArgs s_is_within) (defBody s_is_within) (defScope s_is_within) .none kV29 dc29 pm29 an29 cd29 ct29), sl29⟩) (c29 : PySem.W.codeIn K cd29 "is_within" = true) (k29 : PySem.W.keepIn K (.ref f29) = true)
    (a30 : PySem.W.findIn K (.ref C) "reachable" = some (some (.ref f30))) (i30 : PySem.W.isFn K (.ref f30) = true) (l30 : K.lookup f30 = some ⟨oc30, od30, .func (PySem.W.fnOf "reachable" "Desk.reachable" (defArgs s_Desk_reachable) (defBody s_Desk_reachable) (defScope s_Desk_reachable) .none kV30 dc30 pm30 an30 cd30 ct30), sl30⟩) (c30 : PySem.W.codeIn K cd30 "Desk.reachable" = true) (k30 : PySem.W.keepIn K (.ref f30) = true)
    (a31 : PySem.W.findIn K (.ref C) "__str__" = some (some (.ref f31))) (i31 : PySem.W.isFn K (.ref f31) = true) (l31 : K.lookup f31 = some ⟨oc31, od31, .func (PySem.W.fnOf "__str__" "Desk.__str__" (defArgs s_Desk___str__) (defBody s_Desk___str__) (defScope s_Desk___str__) .none kV31 dc31 pm31 an31 cd31 ct31), sl31⟩) (c31 : PySem.W.codeIn K cd31 "Desk.__str__" = true) (k31 : PySem.W.keepIn K (.ref f31) = true)
    (a32 : PySem.W.nsIn K mainGlobals "_law_agrees" = some (some (.ref f32))) (l32 : K.lookup f32 = some ⟨oc32, od32, .func (PySem.W.fnOf "_law_agrees" "_law_agrees" (defArgs s_law_agrees) (defBody s_law_agrees) (defScope s_law_agrees) .none kV32 dc32 pm32 an32 cd32 ct32), sl32⟩) (c32 : PySem.W.codeIn K cd32 "_law_agrees" = true) (k32 : PySem.W.keepIn K (.ref f32) = true)
    (a33 : PySem.W.nsIn K mainGlobals "_law_result" = some (some (.ref f33))) (l33 : K.lookup f33 = some ⟨oc33, od33, .func (PySem.W.fnOf "_law_result" "_law_result" (defArgs s_law_result) (defBody s_law_result) (defScope s_law_result) .none kV33 dc33 pm33 an33 cd33 ct33), sl33⟩) (c33 : PySem.W.codeIn K cd33 "_law_result" = true) (k33 : PySem.W.keepIn K (.ref f33) = true)
    (a34 : PySem.W.nsIn K mainGlobals "is_object" = some (some (.ref f34))) (l34 : K.lookup f34 = some ⟨oc34, od34, .func (PySem.W.fnOf "is_object" "is_object" (defArgs s_is_object) (defBody s_is_object) (defScope s_is_object) .none kV34 dc34 pm34 an34 cd34 ct34), sl34⟩) (c34 : PySem.W.codeIn K cd34 "is_object" = true) (k34 : PySem.W.keepIn K (.ref f34) = true)
    (a35 : PySem.W.nsIn K mainGlobals "is_wish" = some (some (.ref f35))) (l35 : K.lookup f35 = some ⟨oc35, od35, .func (PySem.W.fnOf "is_wish" "is_wish" (defArgs s_is_wish) (defBody s_is_wish) (defScope s_is_wish) .none kV35 dc35 pm35 an35 cd35 ct35), sl35⟩) (c35 : PySem.W.codeIn K cd35 "is_wish" = true) (k35 : PySem.W.keepIn K (.ref f35) = true)
    (a36 : PySem.W.nsIn K mainGlobals "is_plan" = some (some (.ref f36))) (l36 : K.lookup f36 = some ⟨oc36, od36, .func (PySem.W.fnOf "is_plan" "is_plan" (defArgs s_is_plan) (defBody s_is_plan) (defScope s_is_plan) .none kV36 dc36 pm36 an36 cd36 ct36), sl36⟩) (c36 : PySem.W.codeIn K cd36 "is_plan" = true) (k36 : PySem.W.keepIn K (.ref f36) = true)
    (a37 : PySem.W.nsIn K mainGlobals "check_plan" = some (some (.ref f37))) (l37 : K.lookup f37 = some ⟨oc37, od37, .func (PySem.W.fnOf "check_plan" "check_plan" (defArgs s_check_plan) (defBody s_check_plan) (defScope s_check_plan) .none kV37 dc37 pm37 an37 cd37 ct37), sl37⟩) (c37 : PySem.W.codeIn K cd37 "check_plan" = true) (k37 : PySem.W.keepIn K (.ref f37) = true)
    (a38 : PySem.W.findIn K (.ref C) "__init__" = some (some (.ref f38))) (i38 : PySem.W.isFn K (.ref f38) = true) (l38 : K.lookup f38 = some ⟨oc38, od38, .func (PySem.W.fnOf "__init__" "Desk.__init__" (defArgs s_Desk___init__) (defBody s_Desk___init__) (defScope s_Desk___init__) .none kV38 dc38 pm38 an38 cd38 ct38), sl38⟩) (c38 : PySem.W.codeIn K cd38 "Desk.__init__" = true) (k38 : PySem.W.keepIn K (.ref f38) = true)
    (a39 : PySem.W.nsIn K mainGlobals "law" = some (some (.ref f39))) (l39 : K.lookup f39 = some ⟨oc39, od39, .func (PySem.W.fnOf "law" "law" (defArgs s_law) (defBody s_law) (defScope s_law) .none kV39 dc39 pm39 an39 (.ref cc39) ct39), sl39⟩) (c39 : PySem.W.codeIn K (.ref cc39) "law" = true) (k39 : PySem.W.keepIn K (.ref f39) = true)
    (pg : PySem.W.plainGet K C Str.empty = true) (hd : PySem.W.hasDictIn K C = true) (po : PySem.W.plainOver K C = true) (sa : PySem.W.findIn K (.ref C) "__setattr__" = some (some (.builtin "object.__setattr__"))) (mk : PySem.W.makesIn K C = true) (kc : PySem.W.keepIn K (.ref C) = true) (nP : PySem.W.findIn K (.ref C) "plan" = some none) (nS : PySem.W.findIn K (.ref C) "some" = some none) (nD : PySem.W.findIn K (.ref C) "done" = some none) (nU : PySem.W.findIn K (.ref C) "undone" = some none)
    (z_isinstance : PySem.W.nsIn K mainGlobals "isinstance" = some none)
    (z_int : PySem.W.nsIn K mainGlobals "int" = some none)
    (z_bool : PySem.W.nsIn K mainGlobals "bool" = some none)
    (z_tuple : PySem.W.nsIn K mainGlobals "tuple" = some none)
    (z_list : PySem.W.nsIn K mainGlobals "list" = some none)
    (z_str : PySem.W.nsIn K mainGlobals "str" = some none)
    (z_len : PySem.W.nsIn K mainGlobals "len" = some none)
    (z_all : PySem.W.nsIn K mainGlobals "all" = some none)
    (z_any : PySem.W.nsIn K mainGlobals "any" = some none)
    (z_zip : PySem.W.nsIn K mainGlobals "zip" = some none)
    (z_sum : PySem.W.nsIn K mainGlobals "sum" = some none)
    (z_range : PySem.W.nsIn K mainGlobals "range" = some none)
    (z_enumerate : PySem.W.nsIn K mainGlobals "enumerate" = some none)
    (z_max : PySem.W.nsIn K mainGlobals "max" = some none)
    (z_min : PySem.W.nsIn K mainGlobals "min" = some none)
    (z_sorted : PySem.W.nsIn K mainGlobals "sorted" = some none)
    (z_set : PySem.W.nsIn K mainGlobals "set" = some none)
    (y_LAST : PySem.W.nsIn K mainGlobals "LAST" = some (some (.int 60 t_LAST)))
    {e0 e1 e2 e3 e4 e5 e6 e7 e8 eS : Addr} (EB : ErB K eS)
    (E0 : Er K "InvalidPlan" e0 eS)
    (E1 : Er K "InvalidWishes" e1 eS)
    (E2 : Er K "InvalidNumber" e2 eS)
    (E3 : Er K "InvalidText" e3 eS)
    (E4 : Er K "NotGood" e4 eS)
    (E5 : Er K "UnlikeWishes" e5 eS)
    (E6 : Er K "AlreadyGranted" e6 eS)
    (E7 : Er K "NotGranted" e7 eS)
    (E8 : Er K "NothingToUndo" e8 eS)
    (PW : ∀ i j, PySem.W.subIn K (.ref (clOf e0 e1 e2 e3 e4 e5 e6 e7 e8 i)) (.ref (clOf e0 e1 e2 e3 e4 e5 e6 e7 e8 j)) = some (decide (i = j)))
    {q : Program} (AT : LamX.AllTab q mg h)
    (hq39 : ((recsOf q).any fun e => e.name == "law") = true) :
    LamX.LawAtS l w K CX0 9 63 "_law_script" mg fa h := by
  have e := hfa.symm.trans (PySem.W.mg_of X G a39)
  cases e
  have B : Bt mg := ⟨PySem.W.mg_none_of X G z_isinstance, PySem.W.mg_none_of X G z_int, PySem.W.mg_none_of X G z_bool, PySem.W.mg_none_of X G z_tuple, PySem.W.mg_none_of X G z_list, PySem.W.mg_none_of X G z_str, PySem.W.mg_none_of X G z_len, PySem.W.mg_none_of X G z_all, PySem.W.mg_none_of X G z_any, PySem.W.mg_none_of X G z_zip, PySem.W.mg_none_of X G z_sum, PySem.W.mg_none_of X G z_range, PySem.W.mg_none_of X G z_enumerate, PySem.W.mg_none_of X G z_max, PySem.W.mg_none_of X G z_min, PySem.W.mg_none_of X G z_sorted, PySem.W.mg_none_of X G z_set⟩
  have ET : ErrT K (clOf e0 e1 e2 e3 e4 e5 e6 e7 e8) eS := ⟨EB, fun k => by cases k <;> assumption, PW⟩
  have M : ErrM K mg (clOf e0 e1 e2 e3 e4 e5 e6 e7 e8) eS := errM_of X G ET
  obtain ⟨t1_39, t2_39, t3_39⟩ := LamX.tab_at X AT hq39 (PySem.W.mg_of X G a39) l39 rfl kc39 kP39 nP39
  have T : DskT K C := ⟨⟨pg, hd, po, sa⟩, nP, nS, nD, nU⟩
  have g_LAST : G_LAST mg := ⟨_, PySem.W.mg_of X G y_LAST⟩
  have A0 : DefAt K mg "_law_begun" s_law_begun [] f0 _ := ⟨fun_mk (st := s_law_begun) l0 c0 k0, PySem.W.mg_of X G a0, Kw.of fun vs hl m hm => match vs, hl with | [], _ => (match m, hm with | 0, _ => rfl | m + 1, hm => absurd hm (by show ¬ (m + 1 ≤ 0); omega))⟩
  have A1 : DefAt K mg "_law_draw" s_law_draw ["_law_script", "_law_town", "_law_many"] f1 _ := ⟨fun_mk (st := s_law_draw) l1 c1 k1, PySem.W.mg_of X G a1, Kw.of fun vs hl m hm => match vs, hl with | [_, _, _], _ => (match m, hm with | 0, _ => rfl | 1, _ => rfl | 2, _ => rfl | 3, _ => rfl | m + 4, hm => absurd hm (by show ¬ (m + 4 ≤ 3); omega))⟩
  have A2 : DefAt K mg "_law_plan" s_law_plan ["_law_script", "_law_town", "_law_most"] f2 _ := ⟨fun_mk (st := s_law_plan) l2 c2 k2, PySem.W.mg_of X G a2, Kw.of fun vs hl m hm => match vs, hl with | [_, _, _], _ => (match m, hm with | 0, _ => rfl | 1, _ => rfl | 2, _ => rfl | 3, _ => rfl | m + 4, hm => absurd hm (by show ¬ (m + 4 ≤ 3); omega))⟩
  have A3 : DefAt K mg "_law_subsets" s_law_subsets ["_law_many"] f3 _ := ⟨fun_mk (st := s_law_subsets) l3 c3 k3, PySem.W.mg_of X G a3, Kw.of fun vs hl m hm => match vs, hl with | [_], _ => (match m, hm with | 0, _ => rfl | 1, _ => rfl | m + 2, hm => absurd hm (by show ¬ (m + 2 ≤ 1); omega))⟩
  have A4 : DefAt K mg "_law_against" s_law_against ["_law_plan_here", "_law_some"] f4 _ := ⟨fun_mk (st := s_law_against) l4 c4 k4, PySem.W.mg_of X G a4, Kw.of fun vs hl m hm => match vs, hl with | [_, _], _ => (match m, hm with | 0, _ => rfl | 1, _ => rfl | 2, _ => rfl | m + 3, hm => absurd hm (by show ¬ (m + 3 ≤ 2); omega))⟩
  have A5 : DefAt K mg "_law_goods" s_law_goods ["_law_plan_here"] f5 _ := ⟨fun_mk (st := s_law_goods) l5 c5 k5, PySem.W.mg_of X G a5, Kw.of fun vs hl m hm => match vs, hl with | [_], _ => (match m, hm with | 0, _ => rfl | 1, _ => rfl | m + 2, hm => absurd hm (by show ¬ (m + 2 ≤ 1); omega))⟩
  have A6 : DefAt K mg "_law_operation" s_law_operation ["_law_script", "_law_town", "_law_many"] f6 _ := ⟨fun_mk (st := s_law_operation) l6 c6 k6, PySem.W.mg_of X G a6, Kw.of fun vs hl m hm => match vs, hl with | [_, _, _], _ => (match m, hm with | 0, _ => rfl | 1, _ => rfl | 2, _ => rfl | 3, _ => rfl | m + 4, hm => absurd hm (by show ¬ (m + 4 ≤ 3); omega))⟩
  have A7 : DefAt K mg "_law_due" s_law_due ["_law_plan_here", "_law_some", "_law_operation_here"] f7 _ := ⟨fun_mk (st := s_law_due) l7 c7 k7, PySem.W.mg_of X G a7, Kw.of fun vs hl m hm => match vs, hl with | [_, _, _], _ => (match m, hm with | 0, _ => rfl | 1, _ => rfl | 2, _ => rfl | 3, _ => rfl | m + 4, hm => absurd hm (by show ¬ (m + 4 ≤ 3); omega))⟩
  have A8 : DefAt K mg "is_between" s_is_between ["value", "low", "high"] f8 _ := ⟨fun_mk (st := s_is_between) l8 c8 k8, PySem.W.mg_of X G a8, Kw.of fun vs hl m hm => match vs, hl with | [_, _, _], _ => (match m, hm with | 0, _ => rfl | 1, _ => rfl | 2, _ => rfl | 3, _ => rfl | m + 4, hm => absurd hm (by show ¬ (m + 4 ≤ 3); omega))⟩
  have A9 : DefAt K mg "check_number" s_check_number ["value", "low", "high"] f9 _ := ⟨fun_mk (st := s_check_number) l9 c9 k9, PySem.W.mg_of X G a9, Kw.of fun vs hl m hm => match vs, hl with | [_, _, _], _ => (match m, hm with | 0, _ => rfl | 1, _ => rfl | 2, _ => rfl | 3, _ => rfl | m + 4, hm => absurd hm (by show ¬ (m + 4 ≤ 3); omega))⟩
  have A10 : DefAt K mg "do_rest" s_do_rest ["one", "other", "rest"] f10 _ := ⟨fun_mk (st := s_do_rest) l10 c10 k10, PySem.W.mg_of X G a10, Kw.of fun vs hl m hm => match vs, hl with | [_, _, _], _ => (match m, hm with | 0, _ => rfl | 1, _ => rfl | 2, _ => rfl | 3, _ => rfl | m + 4, hm => absurd hm (by show ¬ (m + 4 ≤ 3); omega))⟩
  have A11 : DefAt K mg "tired" s_tired ["plan", "wishes"] f11 _ := ⟨fun_mk (st := s_tired) l11 c11 k11, PySem.W.mg_of X G a11, Kw.of fun vs hl m hm => match vs, hl with | [_, _], _ => (match m, hm with | 0, _ => rfl | 1, _ => rfl | 2, _ => rfl | m + 3, hm => absurd hm (by show ¬ (m + 3 ≤ 2); omega))⟩
  have A12 : DefAt K mg "weeks_of" s_weeks_of ["wishes", "item"] f12 _ := ⟨fun_mk (st := s_weeks_of) l12 c12 k12, PySem.W.mg_of X G a12, Kw.of fun vs hl m hm => match vs, hl with | [_, _], _ => (match m, hm with | 0, _ => rfl | 1, _ => rfl | 2, _ => rfl | m + 3, hm => absurd hm (by show ¬ (m + 3 ≤ 2); omega))⟩
  have A13 : DefAt K mg "bleached" s_bleached ["plan", "wishes"] f13 _ := ⟨fun_mk (st := s_bleached) l13 c13 k13, PySem.W.mg_of X G a13, Kw.of fun vs hl m hm => match vs, hl with | [_, _], _ => (match m, hm with | 0, _ => rfl | 1, _ => rfl | 2, _ => rfl | m + 3, hm => absurd hm (by show ¬ (m + 3 ≤ 2); omega))⟩
  have A14 : DefAt K mg "value_at" s_value_at ["plan", "wishes", "house", "week"] f14 _ := ⟨fun_mk (st := s_value_at) l14 c14 k14, PySem.W.mg_of X G a14, Kw.of fun vs hl m hm => match vs, hl with | [_, _, _, _], _ => (match m, hm with | 0, _ => rfl | 1, _ => rfl | 2, _ => rfl | 3, _ => rfl | 4, _ => rfl | m + 5, hm => absurd hm (by show ¬ (m + 5 ≤ 4); omega))⟩
  have A15 : DefAt K mg "are_good" s_are_good ["plan", "wishes"] f15 _ := ⟨fun_mk (st := s_are_good) l15 c15 k15, PySem.W.mg_of X G a15, Kw.of fun vs hl m hm => match vs, hl with | [_, _], _ => (match m, hm with | 0, _ => rfl | 1, _ => rfl | 2, _ => rfl | m + 3, hm => absurd hm (by show ¬ (m + 3 ≤ 2); omega))⟩
  have A16 : DefAt K mg "named" s_named ["plan", "some"] f16 _ := ⟨fun_mk (st := s_named) l16 c16 k16, PySem.W.mg_of X G a16, Kw.of fun vs hl m hm => match vs, hl with | [_, _], _ => (match m, hm with | 0, _ => rfl | 1, _ => rfl | 2, _ => rfl | m + 3, hm => absurd hm (by show ¬ (m + 3 ≤ 2); omega))⟩
  have A17 : DefAt K mg "check_good" s_check_good ["plan", "some"] f17 _ := ⟨fun_mk (st := s_check_good) l17 c17 k17, PySem.W.mg_of X G a17, Kw.of fun vs hl m hm => match vs, hl with | [_, _], _ => (match m, hm with | 0, _ => rfl | 1, _ => rfl | 2, _ => rfl | m + 3, hm => absurd hm (by show ¬ (m + 3 ≤ 2); omega))⟩
  have A18 : MetAt K C "become" "Desk.become" s_Desk_become ["self", "operation", "some"] f18 _ := ⟨fun_mk (st := s_Desk_become) l18 c18 k18, ⟨a18, i18, k18⟩, Kw.of fun vs hl m hm => match vs, hl with | [_, _, _], _ => (match m, hm with | 0, _ => rfl | 1, _ => rfl | 2, _ => rfl | 3, _ => rfl | m + 4, hm => absurd hm (by show ¬ (m + 4 ≤ 3); omega))⟩
  have A19 : MetAt K C "grant" "Desk.grant" s_Desk_grant ["self", "wish"] f19 _ := ⟨fun_mk (st := s_Desk_grant) l19 c19 k19, ⟨a19, i19, k19⟩, Kw.of fun vs hl m hm => match vs, hl with | [_, _], _ => (match m, hm with | 0, _ => rfl | 1, _ => rfl | 2, _ => rfl | m + 3, hm => absurd hm (by show ¬ (m + 3 ≤ 2); omega))⟩
  have A20 : MetAt K C "refuse" "Desk.refuse" s_Desk_refuse ["self", "wish"] f20 _ := ⟨fun_mk (st := s_Desk_refuse) l20 c20 k20, ⟨a20, i20, k20⟩, Kw.of fun vs hl m hm => match vs, hl with | [_, _], _ => (match m, hm with | 0, _ => rfl | 1, _ => rfl | 2, _ => rfl | m + 3, hm => absurd hm (by show ¬ (m + 3 ≤ 2); omega))⟩
  have A21 : DefAt K mg "_law_call" s_law_call ["_law_desk", "_law_operation_here"] f21 _ := ⟨fun_mk (st := s_law_call) l21 c21 k21, PySem.W.mg_of X G a21, Kw.of fun vs hl m hm => match vs, hl with | [_, _], _ => (match m, hm with | 0, _ => rfl | 1, _ => rfl | 2, _ => rfl | m + 3, hm => absurd hm (by show ¬ (m + 3 ≤ 2); omega))⟩
  have A22 : MetAt K C "granted" "Desk.granted" s_Desk_granted ["self"] f22 _ := ⟨fun_mk (st := s_Desk_granted) l22 c22 k22, ⟨a22, i22, k22⟩, Kw.of fun vs hl m hm => match vs, hl with | [_], _ => (match m, hm with | 0, _ => rfl | 1, _ => rfl | m + 2, hm => absurd hm (by show ¬ (m + 2 ≤ 1); omega))⟩
  have A23 : MetAt K C "history" "Desk.history" s_Desk_history ["self"] f23 _ := ⟨fun_mk (st := s_Desk_history) l23 c23 k23, ⟨a23, i23, k23⟩, Kw.of fun vs hl m hm => match vs, hl with | [_], _ => (match m, hm with | 0, _ => rfl | 1, _ => rfl | m + 2, hm => absurd hm (by show ¬ (m + 2 ≤ 1); omega))⟩
  have A24 : MetAt K C "__len__" "Desk.__len__" s_Desk___len__ ["self"] f24 _ := ⟨fun_mk (st := s_Desk___len__) l24 c24 k24, ⟨a24, i24, k24⟩, Kw.of fun vs hl m hm => match vs, hl with | [_], _ => (match m, hm with | 0, _ => rfl | 1, _ => rfl | m + 2, hm => absurd hm (by show ¬ (m + 2 ≤ 1); omega))⟩
  have A25 : DefAt K mg "added_to" s_added_to ["plan", "some"] f25 _ := ⟨fun_mk (st := s_added_to) l25 c25 k25, PySem.W.mg_of X G a25, Kw.of fun vs hl m hm => match vs, hl with | [_, _], _ => (match m, hm with | 0, _ => rfl | 1, _ => rfl | 2, _ => rfl | m + 3, hm => absurd hm (by show ¬ (m + 3 ≤ 2); omega))⟩
  have A26 : MetAt K C "options" "Desk.options" s_Desk_options ["self"] f26 _ := ⟨fun_mk (st := s_Desk_options) l26 c26 k26, ⟨a26, i26, k26⟩, Kw.of fun vs hl m hm => match vs, hl with | [_], _ => (match m, hm with | 0, _ => rfl | 1, _ => rfl | m + 2, hm => absurd hm (by show ¬ (m + 2 ≤ 1); omega))⟩
  have A27 : DefAt K mg "subsets_of" s_subsets_of ["many"] f27 _ := ⟨fun_mk (st := s_subsets_of) l27 c27 k27, PySem.W.mg_of X G a27, Kw.of fun vs hl m hm => match vs, hl with | [_], _ => (match m, hm with | 0, _ => rfl | 1, _ => rfl | m + 2, hm => absurd hm (by show ¬ (m + 2 ≤ 1); omega))⟩
  have A28 : DefAt K mg "good_ones" s_good_ones ["plan"] f28 _ := ⟨fun_mk (st := s_good_ones) l28 c28 k28, PySem.W.mg_of X G a28, Kw.of fun vs hl m hm => match vs, hl with | [_], _ => (match m, hm with | 0, _ => rfl | 1, _ => rfl | m + 2, hm => absurd hm (by show ¬ (m + 2 ≤ 1); omega))⟩
  have A29 : DefAt K mg "is_within" s_is_within ["one", "other"] f29 _ := ⟨fun_mk (st := s_is_within) l29 c29 k29, PySem.W.mg_of X G a29, Kw.of fun vs hl m hm => match vs, hl with | [_, _], _ => (match m, hm with | 0, _ => rfl | 1, _ => rfl | 2, _ => rfl | m + 3, hm => absurd hm (by show ¬ (m + 3 ≤ 2); omega))⟩
  have A30 : MetAt K C "reachable" "Desk.reachable" s_Desk_reachable ["self"] f30 _ := ⟨fun_mk (st := s_Desk_reachable) l30 c30 k30, ⟨a30, i30, k30⟩, Kw.of fun vs hl m hm => match vs, hl with | [_], _ => (match m, hm with | 0, _ => rfl | 1, _ => rfl | m + 2, hm => absurd hm (by show ¬ (m + 2 ≤ 1); omega))⟩
  have A31 : MetAt K C "__str__" "Desk.__str__" s_Desk___str__ ["self"] f31 _ := ⟨fun_mk (st := s_Desk___str__) l31 c31 k31, ⟨a31, i31, k31⟩, Kw.of fun vs hl m hm => match vs, hl with | [_], _ => (match m, hm with | 0, _ => rfl | 1, _ => rfl | m + 2, hm => absurd hm (by show ¬ (m + 2 ≤ 1); omega))⟩
  have A32 : DefAt K mg "_law_agrees" s_law_agrees ["_law_desk", "_law_plan_here", "_law_goods_here", "_law_some", "_law_history"] f32 _ := ⟨fun_mk (st := s_law_agrees) l32 c32 k32, PySem.W.mg_of X G a32, Kw.of fun vs hl m hm => match vs, hl with | [_, _, _, _, _], _ => (match m, hm with | 0, _ => rfl | 1, _ => rfl | 2, _ => rfl | 3, _ => rfl | 4, _ => rfl | 5, _ => rfl | m + 6, hm => absurd hm (by show ¬ (m + 6 ≤ 5); omega))⟩
  have A33 : DefAt K mg "_law_result" s_law_result ["_law_call_here"] f33 _ := ⟨fun_mk (st := s_law_result) l33 c33 k33, PySem.W.mg_of X G a33, Kw.of fun vs hl m hm => match vs, hl with | [_], _ => (match m, hm with | 0, _ => rfl | 1, _ => rfl | m + 2, hm => absurd hm (by show ¬ (m + 2 ≤ 1); omega))⟩
  have A34 : DefAt K mg "is_object" s_is_object ["houses", "value"] f34 _ := ⟨fun_mk (st := s_is_object) l34 c34 k34, PySem.W.mg_of X G a34, Kw.of fun vs hl m hm => match vs, hl with | [_, _], _ => (match m, hm with | 0, _ => rfl | 1, _ => rfl | 2, _ => rfl | m + 3, hm => absurd hm (by show ¬ (m + 3 ≤ 2); omega))⟩
  have A35 : DefAt K mg "is_wish" s_is_wish ["houses", "objects", "value"] f35 _ := ⟨fun_mk (st := s_is_wish) l35 c35 k35, PySem.W.mg_of X G a35, Kw.of fun vs hl m hm => match vs, hl with | [_, _, _], _ => (match m, hm with | 0, _ => rfl | 1, _ => rfl | 2, _ => rfl | 3, _ => rfl | m + 4, hm => absurd hm (by show ¬ (m + 4 ≤ 3); omega))⟩
  have A36 : DefAt K mg "is_plan" s_is_plan ["value"] f36 _ := ⟨fun_mk (st := s_is_plan) l36 c36 k36, PySem.W.mg_of X G a36, Kw.of fun vs hl m hm => match vs, hl with | [_], _ => (match m, hm with | 0, _ => rfl | 1, _ => rfl | m + 2, hm => absurd hm (by show ¬ (m + 2 ≤ 1); omega))⟩
  have A37 : DefAt K mg "check_plan" s_check_plan ["plan"] f37 _ := ⟨fun_mk (st := s_check_plan) l37 c37 k37, PySem.W.mg_of X G a37, Kw.of fun vs hl m hm => match vs, hl with | [_], _ => (match m, hm with | 0, _ => rfl | 1, _ => rfl | m + 2, hm => absurd hm (by show ¬ (m + 2 ≤ 1); omega))⟩
  have A38 : IniAt K mg C "Desk" "Desk.__init__" s_Desk___init__ ["self", "plan"] f38 _ := ⟨fun_mk (st := s_Desk___init__) l38 c38 k38, ⟨mk, a38, i38, kc⟩, PySem.W.mg_of X G aC, Kw.of fun vs hl m hm => match vs, hl with | [_, _], _ => (match m, hm with | 0, _ => rfl | 1, _ => rfl | 2, _ => rfl | m + 3, hm => absurd hm (by show ¬ (m + 3 ≤ 2); omega))⟩
  have hTm39 : (Pt39, (("law" : Str) ++ (".<locals>." : Str)) ++ ("<lambda>" : Str)) ∈ [(Pt39, (("law" : Str) ++ (".<locals>." : Str)) ++ ("<lambda>" : Str))] := by simp
  have hT39 : ∀ p ∈ [(Pt39, (("law" : Str) ++ (".<locals>." : Str)) ++ ("<lambda>" : Str))], p.1 = Pt39 → p.2 = (("law" : Str) ++ (".<locals>." : Str)) ++ ("<lambda>" : Str) := List.forall_mem_cons.mpr ⟨fun _ => rfl, fun _ hp => nomatch hp⟩
  refine ⟨PySem.W.fnOf "law" "law" (defArgs s_law) (defBody s_law) (defScope s_law) .none kV39 dc39 pm39 an39 (.ref cc39) ct39, [(cc39, Pt39)], spLawT K [(Pt39, (("law" : Str) ++ (".<locals>." : Str)) ++ ("<lambda>" : Str))], List.forall_mem_cons.mpr ⟨t2_39, fun _ hp => nomatch hp⟩, List.forall_mem_cons.mpr ⟨t3_39, fun _ hp => nomatch hp⟩, List.forall_mem_cons.mpr ⟨t1_39, fun _ hp => nomatch hp⟩, fun s v => .of_eq rfl, fun H a ns hl _ hT hS => ⟨a, ns, rfl, List.forall_mem_cons.mpr ⟨hT (cc39, Pt39) (by simp), fun _ hp => nomatch hp⟩, hS, hl, fun _ => rfl⟩, fun base _ _ TBs => ?_⟩
  have TB39 := TBs (cc39, Pt39) (by simp)
  have h_law_begun : DefB l.prog w K mg base 1 "_law_begun" := d_law_begun A0 B
  have h_law_draw : DefT l.prog w K mg base 1 "_law_draw" ["_law_script", "_law_town", "_law_many"] c_law_draw := d_law_draw A1 B
  have h_law_plan : DefT l.prog w K mg base 2 "_law_plan" ["_law_script", "_law_town", "_law_most"] c_law_plan := d_law_plan A2 B (h_law_draw)
  have h_law_subsets : Def l.prog w K mg base 1 "_law_subsets" ["_law_many"] c_subsets_of := d_law_subsets A3 B
  have h_law_against : Def l.prog w K mg base 1 "_law_against" ["_law_plan_here", "_law_some"] c_law_against := d_law_against A4 B
  have h_law_goods : Def l.prog w K mg base 2 "_law_goods" ["_law_plan_here"] c_good_ones := d_law_goods A5 B (h_law_subsets) (h_law_against)
  have h_law_operation : DefT l.prog w K mg base 2 "_law_operation" ["_law_script", "_law_town", "_law_many"] c_law_operation := d_law_operation A6 B (h_law_draw)
  have h_law_due : Def l.prog w K mg base 2 "_law_due" ["_law_plan_here", "_law_some", "_law_operation_here"] c_law_due := d_law_due A7 B (h_law_against)
  have h_is_between : Def l.prog w K mg base 1 "is_between" ["value", "low", "high"] c_is_between := d_is_between A8 B
  have h_check_number : Def l.prog w K mg base 2 "check_number" ["value", "low", "high"] c_check_number := d_check_number A9 B (h_is_between)
  have h_do_rest : Def l.prog w K mg base 1 "do_rest" ["one", "other", "rest"] c_do_rest := d_do_rest A10 B
  have h_tired : Def l.prog w K mg base 2 "tired" ["plan", "wishes"] c_tired := d_tired A11 B (h_do_rest)
  have h_weeks_of : Def l.prog w K mg base 1 "weeks_of" ["wishes", "item"] c_weeks_of := d_weeks_of A12 B
  have h_bleached : Def l.prog w K mg base 2 "bleached" ["plan", "wishes"] c_bleached := d_bleached A13 B (h_weeks_of)
  have h_value_at : Def l.prog w K mg base 1 "value_at" ["plan", "wishes", "house", "week"] c_value_at := d_value_at A14 B
  have h_are_good : Def l.prog w K mg base 3 "are_good" ["plan", "wishes"] c_are_good := d_are_good A15 B (h_tired) (h_bleached) h_value_at
  have h_named : Def l.prog w K mg base 1 "named" ["plan", "some"] c_named := d_named A16 B
  have h_check_good : Def l.prog w K mg base 4 "check_good" ["plan", "some"] c_check_good := d_check_good A17 B (h_are_good) h_named
  have h_Desk_become : MetD l.prog w K mg base 1 C "become" ["self", "operation", "some"] c_become := d_Desk_become T A18 B
  have h_Desk_grant : MetD l.prog w K mg base 5 C "grant" ["self", "wish"] c_grant := d_Desk_grant T A19 B h_check_number (h_check_good) (h_Desk_become)
  have h_Desk_refuse : MetD l.prog w K mg base 3 C "refuse" ["self", "wish"] c_refuse := d_Desk_refuse T A20 B (h_check_number) (h_Desk_become)
  have h_law_call : DefD l.prog w K mg base 6 C "_law_call" ["_law_desk", "_law_operation_here"] c_law_call := d_law_call T A21 B (h_Desk_grant) (h_Desk_refuse)
  have h_check_number_x : DefX l.prog w K mg base 2 "check_number" ["value", "low", "high"] (clOf e0 e1 e2 e3 e4 e5 e6 e7 e8) x_check_number := d_check_number_x A9 B M (h_is_between)
  have h_check_good_x : DefX l.prog w K mg base 4 "check_good" ["plan", "some"] (clOf e0 e1 e2 e3 e4 e5 e6 e7 e8) x_check_good := d_check_good_x A17 B M (h_are_good) h_named
  have h_Desk_grant_x : MetX l.prog w K mg base 5 C "grant" ["self", "wish"] (clOf e0 e1 e2 e3 e4 e5 e6 e7 e8) x_grant := d_Desk_grant_x T A19 B M h_check_number (h_check_number_x) (h_check_good_x)
  have h_Desk_refuse_x : MetX l.prog w K mg base 3 C "refuse" ["self", "wish"] (clOf e0 e1 e2 e3 e4 e5 e6 e7 e8) x_refuse := d_Desk_refuse_x T A20 B M (h_check_number) (h_check_number_x)
  have h_law_call_x : DefRX l.prog w K mg base 6 C "_law_call" ["_law_desk", "_law_operation_here"] (clOf e0 e1 e2 e3 e4 e5 e6 e7 e8) x_law_call := d_law_call_x T A21 B M (h_Desk_grant_x) (h_Desk_refuse_x)
  have h_Desk_granted : MetR l.prog w K mg base 1 C "granted" ["self"] c_granted := d_Desk_granted T A22 B
  have h_Desk_history : MetR l.prog w K mg base 1 C "history" ["self"] c_history := d_Desk_history T A23 B
  have h_Desk___len__ : MetR l.prog w K mg base 1 C "__len__" ["self"] c_len := d_Desk___len__ T A24 B
  have h_added_to : Def l.prog w K mg base 4 "added_to" ["plan", "some"] c_added_to := d_added_to A25 B (h_are_good) h_named
  have h_Desk_options : MetR l.prog w K mg base 5 C "options" ["self"] c_options := d_Desk_options T A26 B (h_added_to)
  have h_subsets_of : Def l.prog w K mg base 1 "subsets_of" ["many"] c_subsets_of := d_subsets_of A27 B
  have h_good_ones : Def l.prog w K mg base 4 "good_ones" ["plan"] c_good_ones := d_good_ones A28 B h_subsets_of (h_are_good) h_named
  have h_is_within : Def l.prog w K mg base 1 "is_within" ["one", "other"] c_is_within := d_is_within A29 B
  have h_Desk_reachable : MetR l.prog w K mg base 5 C "reachable" ["self"] c_reachable := d_Desk_reachable T A30 B (h_good_ones) h_is_within
  have h_Desk___str__ : MetR l.prog w K mg base 1 C "__str__" ["self"] c_strD := d_Desk___str__ T A31 B
  have h_law_agrees : DefRd l.prog w K mg base 6 C "_law_agrees" ["_law_desk", "_law_plan_here", "_law_goods_here", "_law_some", "_law_history"] c_law_agrees := d_law_agrees T A32 B (h_Desk_granted) (h_Desk_history) (h_Desk___len__) (h_Desk_options) (h_Desk_reachable) (h_Desk___str__)
  have h_law_result : ∀ k, DefR l.prog w K mg base (k + 1) "_law_result" (clOf e0 e1 e2 e3 e4 e5 e6 e7 e8) := d_law_result A33 B M
  have h_law_result_x : ∀ k, DefQ l.prog w K mg base (k + 1) "_law_result" (clOf e0 e1 e2 e3 e4 e5 e6 e7 e8) := d_law_result_x A33 B M
  have h_is_object : Def l.prog w K mg base 2 "is_object" ["houses", "value"] c_is_object := d_is_object A34 B (h_is_between)
  have h_is_wish : Def l.prog w K mg base 2 "is_wish" ["houses", "objects", "value"] c_is_wish := d_is_wish A35 B g_LAST (h_is_between)
  have h_is_plan : Def l.prog w K mg base 3 "is_plan" ["value"] c_is_plan := d_is_plan A36 B h_is_between (h_is_object) (h_is_wish)
  have h_check_plan : Def l.prog w K mg base 4 "check_plan" ["plan"] c_check_plan := d_check_plan A37 B (h_is_plan)
  have h_Desk___init__ : MakI l.prog w K mg base 5 C "Desk" ["self", "plan"] c_check_plan := d_Desk___init__ T A38 B (h_check_plan)
  have h_check_plan_x : DefX l.prog w K mg base 4 "check_plan" ["plan"] (clOf e0 e1 e2 e3 e4 e5 e6 e7 e8) x_check_plan := d_check_plan_x A37 B M (h_is_plan)
  have h_Desk___init___x : MakX l.prog w K mg base 5 C "Desk" ["self", "plan"] (clOf e0 e1 e2 e3 e4 e5 e6 e7 e8) x_check_plan := d_Desk___init___x T A38 B M (h_check_plan_x)
  exact d_law T l39 c39 TB39 hTm39 hT39 B M (h_law_begun) (h_law_plan) h_law_goods (h_law_operation) h_law_due (h_law_call) (h_law_call_x) (h_law_agrees) (h_law_result) (h_law_result_x) (h_Desk___init__) (h_Desk___init___x) (h_Desk_grant_x) (h_Desk_refuse_x)
end Mus
open PySem PySem.W PyProof.Rows
set_option maxHeartbeats 0 in
theorem PySem.Challenge.cw_museumloans_k20_desks_holds : PySem.Challenge.rw_museumloans_k20_desks.Holds := by
  w_on; o_law; k_head; (case hw => w_witness2)
  k_fill
  refine LamX.walk_ofAll (l := PySem.Challenge.rw_museumloans_k20_desks) (n := 63) (k := 9) (x := "_law_script") (CX := fun _ => L2.CX0) rfl (by decide) rfl ⟨rfl, by decide, by decide⟩ (fun w h Y => PySem.W.km_in_of Y) ?F (fun _ _ _ _ _ h => h)
  case F =>
    intro w mg fa h Y KX G hmg AT
    refine' Mus.all_mk KX G hmg (AT := AT) (aC := ?aC) (a0 := ?a0) (l0 := ?l0) (c0 := ?c0) (k0 := ?k0) (a1 := ?a1) (l1 := ?l1) (c1 := ?c1) (k1 := ?k1) (a2 := ?a2) (l2 := ?l2) (c2 := ?c2) (k2 := ?k2) (a3 := ?a3) (l3 := ?l3) (c3 := ?c3) (k3 := ?k3) (a4 := ?a4) (l4 := ?l4) (c4 := ?c4) (k4 := ?k4) (a5 := ?a5) (l5 := ?l5) (c5 := ?c5) (k5 := ?k5) (a6 := ?a6) (l6 := ?l6) (c6 := ?c6) (k6 := ?k6) (a7 := ?a7) (l7 := ?l7) (c7 := ?c7) (k7 := ?k7) (a8 := ?a8) (l8 := ?l8) (c8 := ?c8) (k8 := ?k8) (a9 := ?a9) (l9 := ?l9) (c9 := ?c9) (k9 := ?k9) (a10 := ?a10) (l10 := ?l10) (c10 := ?c10) (k10 := ?k10) (a11 := ?a11) (l11 := ?l11) (c11 := ?c11) (k11 := ?k11) (a12 := ?a12) (l12 := ?l12) (c12 := ?c12) (k12 := ?k12) (a13 := ?a13) (l13 := ?l13) (c13 := ?c13) (k13 := ?k13) (a14 := ?a14) (l14 := ?l14) (c14 := ?c14) (k14 := ?k14) (a15 := ?a15) (l15 := ?l15) (c15 := ?c15) (k15 := ?k15) (a16 := ?a16) (l16 := ?l16) (c16 := ?c16) (k16 := ?k16) (a17 := ?a17) (l17 := ?l17) (c17 := ?c17) (k17 := ?k17) (a18 := ?a18) (i18 := ?i18) (l18 := ?l18) (c18 := ?c18) (k18 := ?k18) (a19 := ?a19) (i19 := ?i19) (l19 := ?l19) (c19 := ?c19) (k19 := ?k19) (a20 := ?a20) (i20 := ?i20) (l20 := ?l20) (c20 := ?c20) (k20 := ?k20) (a21 := ?a21) (l21 := ?l21) (c21 := ?c21) (k21 := ?k21) (a22 := ?a22) (i22 := ?i22) (l22 := ?l22) (c22 := ?c22) (k22 := ?k22) (a23 := ?a23) (i23 := ?i23) (l23 := ?l23) (c23 := ?c23) (k23 := ?k23) (a24 := ?a24) (i24 := ?i24) (l24 := ?l24) (c24 := ?c24) (k24 := ?k24) (a25 := ?a25) (l25 := ?l25) (c25 := ?c25) (k25 := ?k25) (a26 := ?a26) (i26 := ?i26) (l26 := ?l26) (c26 := ?c26) (k26 := ?k26) (a27 := ?a27) (l27 := ?l27) (c27 := ?c27) (k27 := ?k27) (a28 := ?a28) (l28 := ?l28) (c28 := ?c28) (k28 := ?k28) (a29 := ?a29) (l29 := ?l29) (c29 := ?c29) (k29 := ?k29) (a30 := ?a30) (i30 := ?i30) (l30 := ?l30) (c30 := ?c30) (k30 := ?k30) (a31 := ?a31) (i31 := ?i31) (l31 := ?l31) (c31 := ?c31) (k31 := ?k31) (a32 := ?a32) (l32 := ?l32) (c32 := ?c32) (k32 := ?k32) (a33 := ?a33) (l33 := ?l33) (c33 := ?c33) (k33 := ?k33) (a34 := ?a34) (l34 := ?l34) (c34 := ?c34) (k34 := ?k34) (a35 := ?a35) (l35 := ?l35) (c35 := ?c35) (k35 := ?k35) (a36 := ?a36) (l36 := ?l36) (c36 := ?c36) (k36 := ?k36) (a37 := ?a37) (l37 := ?l37) (c37 := ?c37) (k37 := ?k37) (a38 := ?a38) (i38 := ?i38) (l38 := ?l38) (c38 := ?c38) (k38 := ?k38) (a39 := ?a39) (l39 := ?l39) (c39 := ?c39) (k39 := ?k39) (pg := ?pg) (hd := ?hd) (po := ?po) (sa := ?sa) (mk := ?mk) (kc := ?kc) (nP := ?nP) (nS := ?nS) (nD := ?nD) (nU := ?nU) (z_isinstance := ?z_isinstance) (z_int := ?z_int) (z_bool := ?z_bool) (z_tuple := ?z_tuple) (z_list := ?z_list) (z_str := ?z_str) (z_len := ?z_len) (z_all := ?z_all) (z_any := ?z_any) (z_zip := ?z_zip) (z_sum := ?z_sum) (z_range := ?z_range) (z_enumerate := ?z_enumerate) (z_max := ?z_max) (z_min := ?z_min) (z_sorted := ?z_sorted) (z_set := ?z_set) (y_LAST := ?y_LAST) (kc39 := ?kc39) (kP39 := ?kP39) (nP39 := ?nP39) (EB := ?EB) (E0 := ?E0) (E1 := ?E1) (E2 := ?E2) (E3 := ?E3) (E4 := ?E4) (E5 := ?E5) (E6 := ?E6) (E7 := ?E7) (E8 := ?E8) (PW := ?PW) (hq39 := ?hq39)
    case aC => k_is
    case a0 => k_is
    case l0 => k_is
    case c0 => k_is
    case k0 => k_is
    case a1 => k_is
    case l1 => k_is
    case c1 => k_is
    case k1 => k_is
    case a2 => k_is
    case l2 => k_is
    case c2 => k_is
    case k2 => k_is
    case a3 => k_is
    case l3 => k_is
    case c3 => k_is
    case k3 => k_is
    case a4 => k_is
    case l4 => k_is
    case c4 => k_is
    case k4 => k_is
    case a5 => k_is
    case l5 => k_is
    case c5 => k_is
    case k5 => k_is
    case a6 => k_is
    case l6 => k_is
    case c6 => k_is
    case k6 => k_is
    case a7 => k_is
    case l7 => k_is
    case c7 => k_is
    case k7 => k_is
    case a8 => k_is
    case l8 => k_is
    case c8 => k_is
    case k8 => k_is
    case a9 => k_is
    case l9 => k_is
    case c9 => k_is
    case k9 => k_is
    case a10 => k_is
    case l10 => k_is
    case c10 => k_is
    case k10 => k_is
    case a11 => k_is
    case l11 => k_is
    case c11 => k_is
    case k11 => k_is
    case a12 => k_is
    case l12 => k_is
    case c12 => k_is
    case k12 => k_is
    case a13 => k_is
    case l13 => k_is
    case c13 => k_is
    case k13 => k_is
    case a14 => k_is
    case l14 => k_is
    case c14 => k_is
    case k14 => k_is
    case a15 => k_is
    case l15 => k_is
    case c15 => k_is
    case k15 => k_is
    case a16 => k_is
    case l16 => k_is
    case c16 => k_is
    case k16 => k_is
    case a17 => k_is
    case l17 => k_is
    case c17 => k_is
    case k17 => k_is
    case a18 => k_is
    case i18 => k_is
    case l18 => k_is
    case c18 => k_is
    case k18 => k_is
    case a19 => k_is
    case i19 => k_is
    case l19 => k_is
    case c19 => k_is
    case k19 => k_is
    case a20 => k_is
    case i20 => k_is
    case l20 => k_is
    case c20 => k_is
    case k20 => k_is
    case a21 => k_is
    case l21 => k_is
    case c21 => k_is
    case k21 => k_is
    case a22 => k_is
    case i22 => k_is
    case l22 => k_is
    case c22 => k_is
    case k22 => k_is
    case a23 => k_is
    case i23 => k_is
    case l23 => k_is
    case c23 => k_is
    case k23 => k_is
    case a24 => k_is
    case i24 => k_is
    case l24 => k_is
    case c24 => k_is
    case k24 => k_is
    case a25 => k_is
    case l25 => k_is
    case c25 => k_is
    case k25 => k_is
    case a26 => k_is
    case i26 => k_is
    case l26 => k_is
    case c26 => k_is
    case k26 => k_is
    case a27 => k_is
    case l27 => k_is
    case c27 => k_is
    case k27 => k_is
    case a28 => k_is
    case l28 => k_is
    case c28 => k_is
    case k28 => k_is
    case a29 => k_is
    case l29 => k_is
    case c29 => k_is
    case k29 => k_is
    case a30 => k_is
    case i30 => k_is
    case l30 => k_is
    case c30 => k_is
    case k30 => k_is
    case a31 => k_is
    case i31 => k_is
    case l31 => k_is
    case c31 => k_is
    case k31 => k_is
    case a32 => k_is
    case l32 => k_is
    case c32 => k_is
    case k32 => k_is
    case a33 => k_is
    case l33 => k_is
    case c33 => k_is
    case k33 => k_is
    case a34 => k_is
    case l34 => k_is
    case c34 => k_is
    case k34 => k_is
    case a35 => k_is
    case l35 => k_is
    case c35 => k_is
    case k35 => k_is
    case a36 => k_is
    case l36 => k_is
    case c36 => k_is
    case k36 => k_is
    case a37 => k_is
    case l37 => k_is
    case c37 => k_is
    case k37 => k_is
    case a38 => k_is
    case i38 => k_is
    case l38 => k_is
    case c38 => k_is
    case k38 => k_is
    case a39 => k_is
    case l39 => k_is
    case c39 => k_is
    case k39 => k_is
    case pg => k_is
    case hd => k_is
    case po => k_is
    case sa => k_is
    case mk => k_is
    case kc => k_is
    case nP => k_is
    case nS => k_is
    case nD => k_is
    case nU => k_is
    case z_isinstance => k_is
    case z_int => k_is
    case z_bool => k_is
    case z_tuple => k_is
    case z_list => k_is
    case z_str => k_is
    case z_len => k_is
    case z_all => k_is
    case z_any => k_is
    case z_zip => k_is
    case z_sum => k_is
    case z_range => k_is
    case z_enumerate => k_is
    case z_max => k_is
    case z_min => k_is
    case z_sorted => k_is
    case z_set => k_is
    case y_LAST => k_is
    case kc39 => k_is
    case kP39 => rfl
    case nP39 => k_is
    case EB => exact ⟨by k_is, by k_is, by k_is, by k_is, by k_is, by k_is, by k_is⟩
    case E0 => exact ⟨by k_is, by k_exc, by k_is, by k_is, by k_is, by k_is, by k_is, by k_is, by k_is, by k_is, by k_is, by k_is⟩
    case E1 => exact ⟨by k_is, by k_exc, by k_is, by k_is, by k_is, by k_is, by k_is, by k_is, by k_is, by k_is, by k_is, by k_is⟩
    case E2 => exact ⟨by k_is, by k_exc, by k_is, by k_is, by k_is, by k_is, by k_is, by k_is, by k_is, by k_is, by k_is, by k_is⟩
    case E3 => exact ⟨by k_is, by k_exc, by k_is, by k_is, by k_is, by k_is, by k_is, by k_is, by k_is, by k_is, by k_is, by k_is⟩
    case E4 => exact ⟨by k_is, by k_exc, by k_is, by k_is, by k_is, by k_is, by k_is, by k_is, by k_is, by k_is, by k_is, by k_is⟩
    case E5 => exact ⟨by k_is, by k_exc, by k_is, by k_is, by k_is, by k_is, by k_is, by k_is, by k_is, by k_is, by k_is, by k_is⟩
    case E6 => exact ⟨by k_is, by k_exc, by k_is, by k_is, by k_is, by k_is, by k_is, by k_is, by k_is, by k_is, by k_is, by k_is⟩
    case E7 => exact ⟨by k_is, by k_exc, by k_is, by k_is, by k_is, by k_is, by k_is, by k_is, by k_is, by k_is, by k_is, by k_is⟩
    case E8 => exact ⟨by k_is, by k_exc, by k_is, by k_is, by k_is, by k_is, by k_is, by k_is, by k_is, by k_is, by k_is, by k_is⟩
    case PW => (intro i j; cases i <;> cases j <;> (dsimp only [PL.clOf]; k_is))
    case hq39 => decide +kernel
#print axioms PySem.Challenge.cw_museumloans_k20_desks_holds
