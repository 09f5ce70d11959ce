import PyProof.Rows.All
import Wide.All
import OpenK.AllK
import Wide.FinOn
import HandS.ForMost
import HandS.ForExc
import HandS.Deep
import HandS.TupSets
import HandS.Style
import HandS.TupMul
import HandS.TupAny
import HandS.IsInst
import HandS.StrMore
import HandS.Walk
import HandS.Conv
import KE.DataMinMax
import KE.DataMinKey
import KE.DataIsa
import KE.SortData
import KE.DatumIndex
import KE.DataAny
import KE.GoesEnum
import HandS.SortKw
import HandS.ExcIs
import HandS.TryOnly
import PySem.Challenge.RW_plotstead_k50_whole_changes
set_option Elab.async false
set_option linter.all false
set_option maxRecDepth 100000
set_option maxHeartbeats 4000000
/-! PL: Python's pure part read as functions on data. -/
namespace PL
open PySem PySem.Spec PyProof.Rows L2

abbrev D := PyData
/-- an outcome: data, an own exception (by number), or nothing known -/
inductive R (α : Type) where
  | ok (a : α) | exc (c : Nat) | bad
def R.bind {α β : Type} : R α → (α → R β) → R β
  | .ok a, f => f a
  | .exc c, _ => .exc c
  | .bad, _ => .bad
@[simp] theorem R.bind_ok {α β : Type} (a : α) (f : α → R β) : (R.ok a).bind f = f a := rfl
@[simp] theorem R.bind_exc {α β : Type} (c : Nat) (f : α → R β) : (R.exc c : R α).bind f = .exc c := rfl
@[simp] theorem R.bind_bad {α β : Type} (f : α → R β) : (R.bad : R α).bind f = .bad := rfl
def R.ofOpt {α : Type} : Option α → R α
  | some a => .ok a
  | none => .bad
abbrev Env := List (Option D)
abbrev CE := Env → R D
abbrev Sem1 := List D → R D

/-! ### heaps -/
noncomputable def hid (H : Hp) (Z : Addr → Prop) : Hp := fun a => @ite _ (Z a) (Classical.propDecidable _) none (H a)
def Dom (H : Hp) (Z : Addr → Prop) : Prop := ∀ a, Z a → H a ≠ none
section
variable {K : PySem.W.Frag} {H H' H1 H2 : Hp} {Z Z' : Addr → Prop} {a p : Addr} {o : HO}
theorem hid_in (h : Z a) : hid H Z a = none := by unfold hid; exact if_pos h
theorem hid_out (h : ¬ Z a) : hid H Z a = H a := by unfold hid; exact if_neg h
theorem hid_some (h : hid H Z a = some o) : ¬ Z a ∧ H a = some o := by
  by_cases z : Z a
  · rw [hid_in z] at h; cases h
  · rw [hid_out z] at h; exact ⟨z, h⟩
theorem hid_mk (z : ¬ Z a) (h : H a = some o) : hid H Z a = some o := by rw [hid_out z]; exact h
theorem hid_same : Same (hid H Z) H := fun b o e => (hid_some e).2
theorem hid_mono (e : Same H H') : Same (hid H Z) (hid H' Z) := fun b o h => by
  obtain ⟨z, q⟩ := hid_some h
  exact hid_mk z (e b o q)
theorem Dom.mono (d : Dom H Z) (e : Same H H') : Dom H' Z := fun a z q => by
  cases h : H a with
  | none => exact d a z h
  | some o => rw [e a o h] at q; cases q
theorem Dom.out (d : Dom H Z) (h : H p = none) : ¬ Z p := fun z => d p z h
theorem same_new (h : H p = none) : Same H (upd H p o) := fun b u e => by
  rw [upd_ne (ne_of_none e h)]; exact e
theorem hid_new (d : Dom H Z) (h : H p = none) : hid (upd H p o) Z p = some o := hid_mk (d.out h) upd_same
theorem rd_same {u : HO} (e : Same H H') (h : Rd H a u) : Rd H' a u := by
  rcases h with h | ⟨o, h⟩
  · exact .inl (e a _ h)
  · exact .inr ⟨o, e a _ h⟩
theorem sql_same {xs : List V} (e : Same H H') (h : SqL K H a xs) : SqL K H' a xs := by
  rcases h with h | h
  · exact .inl (rd_same e h)
  · exact .inr h
theorem sqt_same {xs : List V} (e : Same H H') (h : SqT K H a xs) : SqT K H' a xs := by
  rcases h with h | h
  · exact .inl (rd_same e h)
  · exact .inr h
mutual
theorem dp_same (e : Same H H') : ∀ {v : V} {d : D}, Dp K H v d → Dp K H' v d
  | _, _, .non => .non
  | _, _, .bl b => .bl b
  | _, _, .int i => .int i
  | _, _, .str x => .str x
  | _, _, .lst h hs => .lst (sql_same e h) (dpAll_same e hs)
  | _, _, .tup h hs => .tup (sqt_same e h) (dpAll_same e hs)
theorem dpAll_same (e : Same H H') : ∀ {vs : List V} {ds : List D}, DpAll K H vs ds → DpAll K H' vs ds
  | _, _, .nil => .nil
  | _, _, .cons h hs => .cons (dp_same e h) (dpAll_same e hs)
end
theorem dpa_length : ∀ {vs : List V} {ds : List D}, DpAll K H vs ds → vs.length = ds.length
  | _, _, .nil => rfl
  | _, _, .cons _ hs => by rw [List.length_cons, List.length_cons, dpa_length hs]
theorem dpa_get : ∀ {vs : List V} {ds : List D} {i : Nat} {d : D}, DpAll K H vs ds → ds[i]? = some d → ∃ v, vs[i]? = some v ∧ Dp K H v d
  | _, _, _, _, .nil, e => by simp at e
  | _, _, 0, _, .cons h _, e => by simp at e; subst e; exact ⟨_, rfl, h⟩
  | _, _, i + 1, d, .cons _ t, e => by
    obtain ⟨v, h1, h2⟩ := dpa_get (i := i) (d := d) t (by simpa using e)
    exact ⟨v, by simpa using h1, h2⟩
theorem dpa_getV : ∀ {vs : List V} {ds : List D} {i : Nat} {v : V}, DpAll K H vs ds → vs[i]? = some v → ∃ d, ds[i]? = some d ∧ Dp K H v d
  | _, _, _, _, .nil, e => by simp at e
  | _, _, 0, _, .cons h _, e => by simp at e; subst e; exact ⟨_, rfl, h⟩
  | _, _, i + 1, v, .cons _ t, e => by
    obtain ⟨d, h1, h2⟩ := dpa_getV (i := i) (v := v) t (by simpa using e)
    exact ⟨d, by simpa using h1, h2⟩
theorem dpa_append : ∀ {vs ws : List V} {ds es : List D}, DpAll K H vs ds → DpAll K H ws es → DpAll K H (vs ++ ws) (ds ++ es)
  | _, _, _, _, .nil, h => h
  | _, _, _, _, .cons h t, g => .cons h (dpa_append t g)
theorem dpa_one {v : V} {d : D} (h : Dp K H v d) : DpAll K H [v] [d] := .cons h .nil
theorem dpa_take : ∀ {vs : List V} {ds : List D} (n : Nat), DpAll K H vs ds → DpAll K H (vs.take n) (ds.take n)
  | _, _, 0, _ => .nil
  | _, _, _ + 1, .nil => .nil
  | _, _, n + 1, .cons h t => .cons h (dpa_take n t)
theorem dpa_drop : ∀ {vs : List V} {ds : List D} (n : Nat), DpAll K H vs ds → DpAll K H (vs.drop n) (ds.drop n)
  | _, _, 0, h => h
  | _, _, _ + 1, .nil => .nil
  | _, _, n + 1, .cons _ t => dpa_drop n t
theorem dpa_rev {vs : List V} {ds : List D} (h : DpAll K H vs ds) : DpAll K H vs.reverse ds.reverse := by
  induction vs generalizing ds with
  | nil => cases h; exact .nil
  | cons v vs ih =>
    cases h with
    | cons h t =>
      rw [List.reverse_cons, List.reverse_cons]
      exact dpa_append (ih t) (dpa_one h)
theorem dpa_ints : ∀ {vs : List V} {ns : List Int}, DpAll K H vs (ns.map PyData.int) → vs = ns.map V.int
  | [], [], _ => rfl
  | v :: vs, n :: ns, h => by
    cases h with
    | cons h t => cases h; rw [List.map_cons, dpa_ints t]
  | [], _ :: _, h => by cases h
  | _ :: _, [], h => by cases h
theorem dpa_bls : ∀ {vs : List V} {ns : List Bool}, DpAll K H vs (ns.map PyData.bool) → vs = ns.map V.bl
  | [], [], _ => rfl
  | v :: vs, n :: ns, h => by
    cases h with
    | cons h t => cases h; rw [List.map_cons, dpa_bls t]
  | [], _ :: _, h => by cases h
  | _ :: _, [], h => by cases h
theorem dpa_strs : ∀ {vs : List V} {ns : List Str}, DpAll K H vs (ns.map PyData.str) → vs = ns.map V.str
  | [], [], _ => rfl
  | v :: vs, n :: ns, h => by
    cases h with
    | cons h t => cases h; rw [List.map_cons, dpa_strs t]
  | [], _ :: _, h => by cases h
  | _ :: _, [], h => by cases h
theorem dpAll_ints : ∀ {ns : List Int}, DpAll K H (ns.map V.int) (ns.map PyData.int)
  | [] => .nil
  | n :: ns => .cons (.int n) dpAll_ints
theorem dpAll_strs : ∀ {ns : List Str}, DpAll K H (ns.map V.str) (ns.map PyData.str)
  | [] => .nil
  | n :: ns => .cons (.str n) dpAll_strs
end

/-! ### readings -/
structure RepE (K : PySem.W.Frag) (H : Hp) (σ : L2.St) (ρ : Env) : Prop where
  len : ρ.length ≤ σ.length
  get : ∀ (i : Nat) (d : D), ρ[i]? = some (some d) → ∃ v, σ[i]? = some (some v) ∧ Dp K H v d
theorem RepE.mono {K : PySem.W.Frag} {H H' : Hp} {σ : L2.St} {ρ : Env} (e : Same H H') (r : RepE K H σ ρ) : RepE K H' σ ρ := ⟨r.len, fun i d h => by
  obtain ⟨v, h1, h2⟩ := r.get i d h
  exact ⟨v, h1, dp_same e h2⟩⟩
abbrev WX := Nat → Hp → Prop
abbrev W0 : WX := fun _ _ => False
def OutE (K : PySem.W.Frag) (W : WX) (H : Hp) (Z : Addr → Prop) (r : R D) (Q : VK) : Prop := match r with
  | .ok d => ∀ v H', Same H H' → Dp K (hid H' Z) v d → Q v H'
  | .exc x => ∀ H', Same H H' → W x H'
  | .bad => False
def OutA (K : PySem.W.Frag) (W : WX) (H : Hp) (Z : Addr → Prop) (r : R (List D)) (Q : List V → Hp → Prop) : Prop := match r with
  | .ok ds => ∀ vs H', Same H H' → DpAll K (hid H' Z) vs ds → Q vs H'
  | .exc x => ∀ H', Same H H' → W x H'
  | .bad => False
def OutT (W : WX) (H : Hp) (r : R D) (Q : Bool → Hp → Prop) : Prop := match r with
  | .ok (.bool b) => ∀ H', Same H H' → Q b H'
  | .ok _ => False
  | .exc x => ∀ H', Same H H' → W x H'
  | .bad => False
section
variable {K : PySem.W.Frag} {W : WX} {H H' : Hp} {Z : Addr → Prop}
theorem OutE.mono {r : R D} {Q : VK} (e : Same H H') (h : OutE K W H Z r Q) : OutE K W H' Z r Q := by
  cases r with
  | ok d => exact fun v H2 e2 hd => h v H2 (e.trans e2) hd
  | exc x => exact fun H2 e2 => h H2 (e.trans e2)
  | bad => exact h
theorem OutA.mono {r : R (List D)} {Q : List V → Hp → Prop} (e : Same H H') (h : OutA K W H Z r Q) : OutA K W H' Z r Q := by
  cases r with
  | ok d => exact fun v H2 e2 hd => h v H2 (e.trans e2) hd
  | exc x => exact fun H2 e2 => h H2 (e.trans e2)
  | bad => exact h
theorem OutT.mono {r : R D} {Q : Bool → Hp → Prop} (e : Same H H') (h : OutT W H r Q) : OutT W H' r Q := by
  cases r with
  | ok d =>
    cases d with
    | bool b => exact fun H2 e2 => h H2 (e.trans e2)
    | _ => exact h
  | exc x => exact fun H2 e2 => h H2 (e.trans e2)
  | bad => exact h
end
def tE (K : PySem.W.Frag) (W : WX) (c : CE) : TE := fun σ H Q => ∃ Z ρ, Dom H Z ∧ RepE K (hid H Z) σ ρ ∧ OutE K W H Z (c ρ) Q
def tA (K : PySem.W.Frag) (W : WX) (c : Env → R (List D)) : TA := fun σ H Q => ∃ Z ρ, Dom H Z ∧ RepE K (hid H Z) σ ρ ∧ OutA K W H Z (c ρ) Q
def tT (K : PySem.W.Frag) (W : WX) (c : CE) : TT := fun σ H Q => ∃ Z ρ, Dom H Z ∧ RepE K (hid H Z) σ ρ ∧ OutT W H (c ρ) Q
/-- the expression e means c -/
structure Ex (X : Cx) (W : WX) (e : Expr) (c : CE) : Prop where
  run : PE X e (tE X.K W c)
structure Ts (X : Cx) (W : WX) (e : Expr) (c : CE) : Prop where
  run : PT X e (tT X.K W c)
structure TsW (X : Cx) (W : WX) (e : Expr) (c : CE) : Prop where
  run : PW X e (tT X.K W c)
structure Ar (X : Cx) (W : WX) (es : List Expr) (c : Env → R (List D)) : Prop where
  run : PA X es (tA X.K W c)

theorem PE_weak {X : Cx} {e : Expr} {t t' : TE} (h : PE X e t) (hw : ∀ σ H Q, t' σ H Q → t σ H Q) : PE X e t' := ⟨fun pins s σ H Q I q => h.run pins s σ H Q I (hw σ H Q q)⟩
theorem PT_weak {X : Cx} {e : Expr} {t t' : TT} (h : PT X e t) (hw : ∀ σ H Q, t' σ H Q → t σ H Q) : PT X e t' := ⟨fun pins s σ H Q I q => h.run pins s σ H Q I (hw σ H Q q)⟩
theorem PW_weak {X : Cx} {e : Expr} {t t' : TT} (h : PW X e t) (hw : ∀ σ H Q, t' σ H Q → t σ H Q) : PW X e t' := ⟨fun wh pins s σ H Q I q => h.run wh pins s σ H Q I (hw σ H Q q)⟩
theorem PA_weak {X : Cx} {es : List Expr} {t t' : TA} (h : PA X es t) (hw : ∀ σ H Q, t' σ H Q → t σ H Q) : PA X es t' := ⟨fun pos pins s σ H Q I q => h.run pos pins s σ H Q I (hw σ H Q q)⟩

/-! ### rules by values -/
def r2G (K : PySem.W.Frag) (W : WX) (g : D → D → R D) : R2 := fun x y H Q => ∃ Z d e, Dom H Z ∧ Dp K (hid H Z) x d ∧ Dp K (hid H Z) y e ∧ OutE K W H Z (g d e) Q
def r1G (K : PySem.W.Frag) (W : WX) (g : D → R D) : V → Hp → VK → Prop := fun x H Q => ∃ Z d, Dom H Z ∧ Dp K (hid H Z) x d ∧ OutE K W H Z (g d) Q
def rG (K : PySem.W.Frag) (W : WX) (g : Sem1) : List V → Hp → VK → Prop := fun vs H Q => ∃ Z ds, Dom H Z ∧ DpAll K (hid H Z) vs ds ∧ OutE K W H Z (g ds) Q
def rMG (K : PySem.W.Frag) (W : WX) (g : D → Sem1) : V → List V → Hp → VK → Prop := fun x vs H Q => ∃ Z d ds, Dom H Z ∧ Dp K (hid H Z) x d ∧ DpAll K (hid H Z) vs ds ∧ OutE K W H Z (g d ds) Q

section
variable {K : PySem.W.Frag} {W : WX} {σ : L2.St} {H : Hp} {Z : Addr → Prop} {ρ : Env}
theorem seqE {c : CE} {f : D → R D} {Q : VK} {T : V → Hp → Prop} (hd : Dom H Z) (hr : RepE K (hid H Z) σ ρ) (h : OutE K W H Z ((c ρ).bind f) Q)
    (k : ∀ d v H', Same H H' → Dom H' Z → RepE K (hid H' Z) σ ρ → Dp K (hid H' Z) v d → OutE K W H' Z (f d) Q → T v H') : tE K W c σ H T := by
  refine ⟨Z, ρ, hd, hr, ?_⟩
  cases hc : c ρ with
  | ok d =>
    rw [hc] at h
    exact fun v H' e hv => k d v H' e (hd.mono e) (hr.mono (hid_mono e)) hv (OutE.mono e h)
  | exc x => rw [hc] at h; exact h
  | bad => rw [hc] at h; exact h
theorem seqEA {c : CE} {f : D → R (List D)} {Q : List V → Hp → Prop} {T : V → Hp → Prop} (hd : Dom H Z) (hr : RepE K (hid H Z) σ ρ) (h : OutA K W H Z ((c ρ).bind f) Q)
    (k : ∀ d v H', Same H H' → Dom H' Z → RepE K (hid H' Z) σ ρ → Dp K (hid H' Z) v d → OutA K W H' Z (f d) Q → T v H') : tE K W c σ H T := by
  refine ⟨Z, ρ, hd, hr, ?_⟩
  cases hc : c ρ with
  | ok d =>
    rw [hc] at h
    exact fun v H' e hv => k d v H' e (hd.mono e) (hr.mono (hid_mono e)) hv (OutA.mono e h)
  | exc x => rw [hc] at h; exact h
  | bad => rw [hc] at h; exact h
theorem seqET {c : CE} {f : D → R D} {Q : Bool → Hp → Prop} {T : V → Hp → Prop} (hd : Dom H Z) (hr : RepE K (hid H Z) σ ρ) (h : OutT W H ((c ρ).bind f) Q)
    (k : ∀ d v H', Same H H' → Dom H' Z → RepE K (hid H' Z) σ ρ → Dp K (hid H' Z) v d → OutT W H' (f d) Q → T v H') : tE K W c σ H T := by
  refine ⟨Z, ρ, hd, hr, ?_⟩
  cases hc : c ρ with
  | ok d =>
    rw [hc] at h
    exact fun v H' e hv => k d v H' e (hd.mono e) (hr.mono (hid_mono e)) hv (OutT.mono e h)
  | exc x => rw [hc] at h; exact h
  | bad => rw [hc] at h; exact h
theorem seqA {c : Env → R (List D)} {f : List D → R D} {Q : VK} {T : List V → Hp → Prop} (hd : Dom H Z) (hr : RepE K (hid H Z) σ ρ) (h : OutE K W H Z ((c ρ).bind f) Q)
    (k : ∀ d v H', Same H H' → Dom H' Z → RepE K (hid H' Z) σ ρ → DpAll K (hid H' Z) v d → OutE K W H' Z (f d) Q → T v H') : tA K W c σ H T := by
  refine ⟨Z, ρ, hd, hr, ?_⟩
  cases hc : c ρ with
  | ok d =>
    rw [hc] at h
    exact fun v H' e hv => k d v H' e (hd.mono e) (hr.mono (hid_mono e)) hv (OutE.mono e h)
  | exc x => rw [hc] at h; exact h
  | bad => rw [hc] at h; exact h
/-- a condition (a bool), then a value -/
def andB (f : R D) : D → R D
  | .bool true => f
  | .bool false => .ok (.bool false)
  | _ => .bad
def orB (f : R D) : D → R D
  | .bool true => .ok (.bool true)
  | .bool false => f
  | _ => .bad
def notB : D → R D
  | .bool b => .ok (.bool (!b))
  | _ => .bad
def iteB {α : Type} (a b : R α) : D → R α
  | .bool true => a
  | .bool false => b
  | _ => .bad
end

/-! ### expressions -/
section
variable {X : Cx} {W : WX} {a b c e : Expr} {es : List Expr} {ca cb cc ce : CE} {pos p : Pos}
def cVar (i : Nat) : CE := fun ρ => match ρ[i]? with
  | some (some d) => .ok d
  | _ => .bad
def cC (d : D) : CE := fun _ => .ok d
theorem ex_var {i : Nat} (h : PE X a (tVar i)) : Ex X W a (cVar i) := ⟨PE_weak h fun σ H Q ⟨Z, ρ, hd, hr, ho⟩ => by
  unfold cVar at ho
  split at ho
  · rename_i d hq
    obtain ⟨v, h1, h2⟩ := hr.get i d hq
    exact ⟨v, h1, ho v H (Same.refl H) h2⟩
  · exact ho.elim⟩
theorem ex_c {v : V} {d : D} (h : PE X a (tC v)) (hv : ∀ (K : PySem.W.Frag) H, Dp K H v d) : Ex X W a (cC d) := ⟨PE_weak h fun σ H Q ⟨Z, ρ, hd, hr, ho⟩ => ho v H (Same.refl H) (hv _ _)⟩
theorem ex_int {i j pos} : Ex X W (.Constant (.int i) j pos) (cC (.int i)) := ex_c pe_int fun _ _ => .int i
theorem ex_bl {b j pos} : Ex X W (.Constant (.bool b) j pos) (cC (.bool b)) := ex_c pe_bl fun _ _ => .bl b
theorem ex_non {j pos} : Ex X W (.Constant .none j pos) (cC .none) := ex_c pe_non fun _ _ => .non
theorem ex_str {x j pos} : Ex X W (.Constant (.str x) j pos) (cC (.str x)) := ex_c pe_str fun _ _ => .str x
def c2 (g : D → D → R D) (ca cb : CE) : CE := fun ρ => (ca ρ).bind fun x => (cb ρ).bind fun y => g x y
def c1 (g : D → R D) (ca : CE) : CE := fun ρ => (ca ρ).bind g
theorem t2_of {K : PySem.W.Frag} {g : D → D → R D} {σ : L2.St} {H : Hp} {Q : VK} (h : tE K W (c2 g ca cb) σ H Q) : tOp (r2G K W g) (tE K W ca) (tE K W cb) σ H Q := by
  obtain ⟨Z, ρ, hd, hr, ho⟩ := h
  exact seqE hd hr ho fun d v H1 e1 d1 r1 hv o1 => seqE d1 r1 o1 fun d' v' H2 e2 d2 r2 hv' o2 => ⟨Z, d, d', d2, dp_same (hid_mono e2) hv, hv', o2⟩
theorem t1_of {K : PySem.W.Frag} {g : D → R D} {σ : L2.St} {H : Hp} {Q : VK} (h : tE K W (c1 g ca) σ H Q) : tUn (r1G K W g) (tE K W ca) σ H Q := by
  obtain ⟨Z, ρ, hd, hr, ho⟩ := h
  exact seqE hd hr ho fun d v H1 e1 d1 r1 hv o1 => ⟨Z, d, d1, hv, o1⟩
theorem ex_bin {op : Operator} {g : D → D → R D} (ho : OpR X (binaryOp op) (r2G X.K W g)) (ha : Ex X W a ca) (hb : Ex X W b cb) : Ex X W (.BinOp a op b pos) (c2 g ca cb) :=
  ⟨PE_weak (pe_op ho ha.run hb.run) fun _ _ _ h => t2_of h⟩
theorem ex_un {op : UnaryOp} {g : D → R D} (ho : UnR X (unaryOp op) (r1G X.K W g)) (ha : Ex X W a ca) : Ex X W (.UnaryOp op a pos) (c1 g ca) :=
  ⟨PE_weak (pe_un ho ha.run) fun _ _ _ h => t1_of h⟩
theorem ex_ix {g : D → D → R D} (ho : IxR X (r2G X.K W g)) (ha : Ex X W a ca) (hb : Ex X W b cb) (hs : PlainIx b) : Ex X W (.Subscript a b pos) (c2 g ca cb) :=
  ⟨PE_weak (pe_ix ho ha.run hb.run hs) fun _ _ _ h => t2_of h⟩
theorem ex_cmp {op : CmpOp} {g : D → D → R D} (ho : OpR X (compareOp op) (r2G X.K W g)) (ha : Ex X W a ca) (hb : Ex X W b cb) (hm : behindInMarks op b = false) : Ex X W (.Compare a [op] [b] pos) (c2 g ca cb) :=
  ⟨PE_weak (pe_cmpR ho ha.run hb.run hm) fun _ _ _ h => t2_of h⟩
theorem tT_of {K : PySem.W.Frag} {c : CE} {σ : L2.St} {H : Hp} {Q : Bool → Hp → Prop} (h : tT K W c σ H Q) : tTest (tE K W c) σ H Q := by
  obtain ⟨Z, ρ, hd, hr, ho⟩ := h
  refine ⟨Z, ρ, hd, hr, ?_⟩
  cases hc : c ρ with
  | ok d =>
    rw [hc] at ho
    cases d with
    | bool b => exact fun v H' e hv => by cases hv; exact ⟨b, rfl, ho H' e⟩
    | _ => exact ho.elim
  | exc x => rw [hc] at ho; exact ho
  | bad => rw [hc] at ho; exact ho
theorem t2T_of {K : PySem.W.Frag} {g : D → D → R D} {σ : L2.St} {H : Hp} {Q : Bool → Hp → Prop} (h : tT K W (c2 g ca cb) σ H Q) : tTest (tOp (r2G K W g) (tE K W ca) (tE K W cb)) σ H Q :=
  t2_of (tT_of h)
theorem ts_cmp {op : CmpOp} {g : D → D → R D} (ho : OpR X (compareOp op) (r2G X.K W g)) (ha : Ex X W a ca) (hb : Ex X W b cb) (hm : behindInMarks op b = false) : Ts X W (.Compare a [op] [b] pos) (c2 g ca cb) :=
  ⟨PT_weak (pt_cmpR ho ha.run hb.run hm) fun _ _ _ h => t2T_of h⟩
theorem ts_val (h : Ex X W e ce) (he : ∀ whole, isTrue e X.env whole = (do let v ← whole; standAt e.pos; holding [v] (truthy v)) := by intro _; rfl) : Ts X W e ce :=
  ⟨PT_weak (pt_val h.run he) fun _ _ _ h => tT_of h⟩
/-- a op b op' c -/
def cChain (g g' : D → D → R D) (ca cb cc : CE) : CE := fun ρ => (ca ρ).bind fun x => (cb ρ).bind fun y => (g x y).bind (andB ((cc ρ).bind fun z => g' y z))
theorem chain_of {K : PySem.W.Frag} {g g' : D → D → R D} {σ : L2.St} {H : Hp} {Q : VK} (h : tE K W (cChain g g' ca cb cc) σ H Q) : tChain (r2G K W g) (r2G K W g') (tE K W ca) (tE K W cb) (tE K W cc) σ H Q := by
  obtain ⟨Z, ρ, hd, hr, ho⟩ := h
  refine seqE hd hr ho fun d v H1 e1 d1 r1 hv o1 => seqE d1 r1 o1 fun d' v' H2 e2 d2 r2 hv' o2 => ⟨Z, d, d', d2, dp_same (hid_mono e2) hv, hv', ?_⟩
  cases hg : g d d' with
  | bad => rw [hg] at o2; exact o2
  | exc x => rw [hg] at o2; exact o2
  | ok z =>
    rw [hg] at o2
    cases z with
    | bool k =>
      refine fun v3 H3 e3 h3 => ?_
      cases h3
      cases k with
      | true =>
        refine ⟨true, rfl, ?_⟩
        rw [if_pos rfl]
        exact seqE (d2.mono e3) (r2.mono (hid_mono e3)) (OutE.mono e3 o2) fun d4 v4 H4 e4 d4' r4 hv4 o4 => ⟨Z, d', d4, d4', dp_same (hid_mono (e3.trans e4)) hv', hv4, o4⟩
      | false =>
        refine ⟨false, rfl, ?_⟩
        rw [if_neg Bool.false_ne_true]
        exact o2 _ H3 e3 (.bl false)
    | _ => exact o2.elim
theorem ex_chain {op op' : CmpOp} {g g' : D → D → R D} (ho : OpR X (compareOp op) (r2G X.K W g)) (ho' : OpR X (compareOp op') (r2G X.K W g')) (ha : Ex X W a ca) (hb : Ex X W b cb) (hc : Ex X W c cc)
    (hm : lastMarks [op, op'] [b, c] = false := by with_unfolding_all rfl) : Ex X W (.Compare a [op, op'] [b, c] pos) (cChain g g' ca cb cc) :=
  ⟨PE_weak (pe_chain ho ho' ha.run hb.run hc.run hm) fun _ _ _ h => chain_of h⟩
theorem ts_chain {op op' : CmpOp} {g g' : D → D → R D} (ho : OpR X (compareOp op) (r2G X.K W g)) (ho' : OpR X (compareOp op') (r2G X.K W g')) (ha : Ex X W a ca) (hb : Ex X W b cb) (hc : Ex X W c cc)
    (hm : lastMarks [op, op'] [b, c] = false := by with_unfolding_all rfl) : Ts X W (.Compare a [op, op'] [b, c] pos) (cChain g g' ca cb cc) :=
  ⟨PT_weak (pt_chain ho ho' ha.run hb.run hc.run hm) fun _ _ _ h => chain_of (tT_of h)⟩
/-! and, or, not -/
def cAnd (ca cb : CE) : CE := fun ρ => (ca ρ).bind (andB (cb ρ))
def cOr (ca cb : CE) : CE := fun ρ => (ca ρ).bind (orB (cb ρ))
def cNot (ca : CE) : CE := fun ρ => (ca ρ).bind notB
theorem isBool (d : D) : (∃ b, d = .bool b) ∨ ∀ b, d ≠ .bool b := by
  cases d with
  | bool b => exact .inl ⟨b, rfl⟩
  | _ => exact .inr fun b z => by cases z
theorem OutT.ok {H : Hp} {d : D} {Q : Bool → Hp → Prop} (h : OutT W H (.ok d) Q) : ∃ b, d = .bool b ∧ ∀ H', Same H H' → Q b H' := by
  cases d with
  | bool b => exact ⟨b, rfl, h⟩
  | _ => exact h.elim
variable {rest : List Expr}
theorem ex_one {op} (h : Ex X W a ca) : Ex X W (.BoolOp op [a] pos) ca := ⟨pe_one h.run⟩
theorem ex_and (ha : Ex X W a ca) (hb : Ex X W (.BoolOp .And (b :: rest) pos) cb) : Ex X W (.BoolOp .And (a :: b :: rest) pos) (cAnd ca cb) :=
  ⟨PE_weak (pe_and ha.run hb.run) fun σ H Q ⟨Z, ρ, hd, hr, ho⟩ => seqE hd hr ho fun d v H1 e1 d1 r1 hv o1 => by
    cases d with
    | bool k =>
      cases hv
      refine ⟨k, rfl, ?_⟩
      cases k with
      | true => rw [if_pos rfl]; exact ⟨Z, ρ, d1, r1, o1⟩
      | false => rw [if_neg Bool.false_ne_true]; exact o1 _ H1 (Same.refl _) (.bl false)
    | _ => exact o1.elim⟩
theorem ex_or (ha : Ex X W a ca) (hb : Ex X W (.BoolOp .Or (b :: rest) pos) cb) : Ex X W (.BoolOp .Or (a :: b :: rest) pos) (cOr ca cb) :=
  ⟨PE_weak (pe_or ha.run hb.run) fun σ H Q ⟨Z, ρ, hd, hr, ho⟩ => seqE hd hr ho fun d v H1 e1 d1 r1 hv o1 => by
    cases d with
    | bool k =>
      cases hv
      refine ⟨k, rfl, ?_⟩
      cases k with
      | true => rw [if_pos rfl]; exact o1 _ H1 (Same.refl _) (.bl true)
      | false => rw [if_neg Bool.false_ne_true]; exact ⟨Z, ρ, d1, r1, o1⟩
    | _ => exact o1.elim⟩
theorem ex_not (ha : Ex X W a ca) : Ex X W (.UnaryOp .Not a pos) (cNot ca) :=
  ⟨PE_weak (pe_not ha.run) fun σ H Q ⟨Z, ρ, hd, hr, ho⟩ => seqE hd hr ho fun d v H1 e1 d1 r1 hv o1 => by
    cases d with
    | bool k =>
      cases hv
      exact ⟨k, rfl, o1 _ H1 (Same.refl _) (.bl (!k))⟩
    | _ => exact o1.elim⟩
/-- a test, then a test -/
theorem seqT {K : PySem.W.Frag} {σ : L2.St} {H : Hp} {Z : Addr → Prop} {ρ : Env} {f : D → R D} {Q : Bool → Hp → Prop} {T : Bool → Hp → Prop} (hd : Dom H Z) (hr : RepE K (hid H Z) σ ρ) (h : OutT W H ((ca ρ).bind f) Q)
    (hf : ∀ d, (∀ b, d ≠ .bool b) → f d = .bad) (k : ∀ b H', Same H H' → Dom H' Z → RepE K (hid H' Z) σ ρ → OutT W H' (f (.bool b)) Q → T b H') : tT K W ca σ H T := by
  refine ⟨Z, ρ, hd, hr, ?_⟩
  cases hc : ca ρ with
  | ok d =>
    rw [hc] at h
    rcases isBool d with ⟨b, rfl⟩ | hn
    · exact fun H' e => k b H' e (hd.mono e) (hr.mono (hid_mono e)) (OutT.mono e h)
    · rw [R.bind_ok, hf d hn] at h; exact h.elim
  | exc x => rw [hc] at h; exact h
  | bad => rw [hc] at h; exact h
theorem andB_bad {f : R D} (d : D) (h : ∀ b, d ≠ .bool b) : andB f d = .bad := by
  cases d with
  | bool b => exact (h b rfl).elim
  | _ => rfl
theorem orB_bad {f : R D} (d : D) (h : ∀ b, d ≠ .bool b) : orB f d = .bad := by
  cases d with
  | bool b => exact (h b rfl).elim
  | _ => rfl
theorem notB_bad (d : D) (h : ∀ b, d ≠ .bool b) : notB d = .bad := by
  cases d with
  | bool b => exact (h b rfl).elim
  | _ => rfl
theorem tw_and1 (h : Ts X W a ca) : TsW X W (.BoolOp .And [a] pos) ca := ⟨pw_and1 h.run⟩
theorem tw_or1 (h : Ts X W a ca) : TsW X W (.BoolOp .Or [a] pos) ca := ⟨pw_or1 h.run⟩
theorem tw_and (ha : Ts X W a ca) (hb : TsW X W (.BoolOp .And (b :: rest) pos) cb) : TsW X W (.BoolOp .And (a :: b :: rest) pos) (cAnd ca cb) :=
  ⟨PW_weak (pw_and ha.run hb.run) fun σ H Q ⟨Z, ρ, hd, hr, ho⟩ => seqT hd hr ho andB_bad fun k H1 e1 d1 r1 o1 => by
    cases k with
    | true => rw [if_pos rfl]; exact ⟨Z, ρ, d1, r1, o1⟩
    | false => rw [if_neg Bool.false_ne_true]; exact o1 H1 (Same.refl _)⟩
theorem tw_or (ha : Ts X W a ca) (hb : TsW X W (.BoolOp .Or (b :: rest) pos) cb) : TsW X W (.BoolOp .Or (a :: b :: rest) pos) (cOr ca cb) :=
  ⟨PW_weak (pw_or ha.run hb.run) fun σ H Q ⟨Z, ρ, hd, hr, ho⟩ => seqT hd hr ho orB_bad fun k H1 e1 d1 r1 o1 => by
    cases k with
    | true => rw [if_pos rfl]; exact o1 H1 (Same.refl _)
    | false => rw [if_neg Bool.false_ne_true]; exact ⟨Z, ρ, d1, r1, o1⟩⟩
theorem ts_w (h : TsW X W e ce) : Ts X W e ce := ⟨h.run.pt⟩
theorem ts_not (ha : Ts X W a ca) : Ts X W (.UnaryOp .Not a pos) (cNot ca) :=
  ⟨PT_weak (pt_not ha.run) fun σ H Q ⟨Z, ρ, hd, hr, ho⟩ => seqT hd hr ho notB_bad fun k H1 e1 d1 r1 o1 => o1 H1 (Same.refl _)⟩
/-! arguments, displays -/
def aNil : Env → R (List D) := fun _ => .ok []
def aCons (ca : CE) (cs : Env → R (List D)) : Env → R (List D) := fun ρ => (ca ρ).bind fun x => (cs ρ).bind fun xs => .ok (x :: xs)
theorem ar_nil : Ar X W [] aNil := ⟨PA_weak pa_nil fun σ H Q ⟨Z, ρ, hd, hr, ho⟩ => ho [] H (Same.refl _) .nil⟩
theorem seqAA {K : PySem.W.Frag} {σ : L2.St} {H : Hp} {Z : Addr → Prop} {ρ : Env} {cs : Env → R (List D)} {f : List D → R (List D)} {Q : List V → Hp → Prop} {T : List V → Hp → Prop} (hd : Dom H Z) (hr : RepE K (hid H Z) σ ρ) (h : OutA K W H Z ((cs ρ).bind f) Q)
    (k : ∀ d v H', Same H H' → Dom H' Z → RepE K (hid H' Z) σ ρ → DpAll K (hid H' Z) v d → OutA K W H' Z (f d) Q → T v H') : tA K W cs σ H T := by
  refine ⟨Z, ρ, hd, hr, ?_⟩
  cases hc : cs ρ with
  | ok d =>
    rw [hc] at h
    exact fun v H' e hv => k d v H' e (hd.mono e) (hr.mono (hid_mono e)) hv (OutA.mono e h)
  | exc x => rw [hc] at h; exact h
  | bad => rw [hc] at h; exact h
theorem ar_cons {cs : Env → R (List D)} (ha : Ex X W e ce) (hs : Ar X W es cs) (hst : starEach (e :: es) X.env = (false, eval e X.env) :: starEach es X.env := by rfl) : Ar X W (e :: es) (aCons ce cs) :=
  ⟨PA_weak (pa_cons ha.run hs.run hst) fun σ H Q ⟨Z, ρ, hd, hr, ho⟩ => seqEA hd hr ho fun d v H1 e1 d1 r1 hv o1 => seqAA d1 r1 o1 fun ds vs H2 e2 d2 r2 hvs o2 =>
    o2 _ H2 (Same.refl _) (.cons (dp_same (hid_mono e2) hv) hvs)⟩
def mkTup (ds : List D) : R D := if ds.length ≤ sizeLine then .ok (.tuple ds) else .bad
def mkLst (ds : List D) : R D := if ds.length ≤ sizeLine then .ok (.list ds) else .bad
theorem mkTup_le {ds : List D} (h : ds.length ≤ sizeLine) : mkTup ds = .ok (.tuple ds) := if_pos h
theorem mkLst_le {ds : List D} (h : ds.length ≤ sizeLine) : mkLst ds = .ok (.list ds) := if_pos h
def cA (g : Sem1) (cs : Env → R (List D)) : CE := fun ρ => (cs ρ).bind g
theorem ex_tup {x1} {cs : Env → R (List D)} (h : Ar X W es cs) : Ex X W (.Tuple es x1 pos) (cA mkTup cs) :=
  ⟨PE_weak (pe_tup h.run) fun σ H Q ⟨Z, ρ, hd, hr, ho⟩ => seqA hd hr ho fun ds vs H1 e1 d1 r1 hv o1 => by
    unfold mkTup at o1
    split at o1
    · rename_i hl
      refine ⟨by rw [dpa_length hv]; exact hl, fun p hp => ?_⟩
      exact o1 _ _ (same_new hp) (.tup (.inl (.inl (hid_new d1 hp))) (dpAll_same (hid_mono (same_new hp)) hv))
    · exact o1.elim⟩
theorem ex_lst {cs : Env → R (List D)} (h : Ar X W es cs) : Ex X W (.List es pos) (cA mkLst cs) :=
  ⟨PE_weak (pe_lst h.run) fun σ H Q ⟨Z, ρ, hd, hr, ho⟩ => seqA hd hr ho fun ds vs H1 e1 d1 r1 hv o1 => by
    unfold mkLst at o1
    split at o1
    · rename_i hl
      refine ⟨by rw [dpa_length hv]; exact hl, fun p hp => ?_⟩
      exact o1 _ _ (same_new hp) (.lst (.inl (.inl (hid_new d1 hp))) (dpAll_same (hid_mono (same_new hp)) hv))
    · exact o1.elim⟩
/-! calls of built-ins and of own defs -/
theorem ex_callB {g : Sem1} {x : Str} {id : String} {cs : Env → R (List D)} (hc : CallR X (.builtin id) (rG X.K W g)) (hg : Gl X x) (hm : X.mg x = none) (hv : bootBuiltins x = some (.builtin id)) (ha : Ar X W (e :: es) cs) (hn : x ≠ "__name__" := by decide) (hdb : (x == ("__debug__" : Str)) = false := by decide)
    (he : starEach (e :: es) X.env = (false, eval e X.env) :: starEach es X.env := by rfl) (hpl : (backTo pos (starEach es X.env)).any (·.1) = false := by rfl) : Ex X W (.Call (.Name x p) (e :: es) [] pos) (cA g cs) :=
  ⟨PE_weak (pe_callB hc hg hm hv ha.run hn hdb he hpl) fun σ H Q ⟨Z, ρ, hd, hr, ho⟩ => seqA hd hr ho fun ds vs H1 e1 d1 r1 hv o1 => ⟨Z, ds, d1, hv, o1⟩⟩
theorem ex_callTy {g : Sem1} {x : Str} {T : String} {cs : Env → R (List D)} (hc : CallR X (.type T) (rG X.K W g)) (hg : Gl X x) (hm : X.mg x = none) (hv : bootBuiltins x = some (.type T)) (ha : Ar X W (e :: es) cs) (hn : x ≠ "__name__" := by decide) (hdb : (x == ("__debug__" : Str)) = false := by decide)
    (he : starEach (e :: es) X.env = (false, eval e X.env) :: starEach es X.env := by rfl) (hpl : (backTo pos (starEach es X.env)).any (·.1) = false := by rfl) : Ex X W (.Call (.Name x p) (e :: es) [] pos) (cA g cs) :=
  ⟨PE_weak (pe_callTy hc hg hm hv ha.run hn hdb he hpl) fun σ H Q ⟨Z, ρ, hd, hr, ho⟩ => seqA hd hr ho fun ds vs H1 e1 d1 r1 hv o1 => ⟨Z, ds, d1, hv, o1⟩⟩
/-- a def's promise: n arguments; Cl: the own exceptions' classes by number -/
def spF (K : PySem.W.Frag) (Cl : Nat → Addr) (n : Nat) (f : Sem1) : Sp := fun vs H Q E => vs.length = n ∧ ∃ Z ds, Dom H Z ∧ DpAll K (hid H Z) vs ds ∧ OutE K (fun x H' => E (.ref (Cl x)) none H') H Z (f ds) Q
/-- a call of a def that raises nothing -/
def pureS (f : Sem1) : Sem1 := fun ds => match f ds with
  | .ok d => .ok d
  | _ => .bad
theorem ex_call {Cl : Nat → Addr} {k : Nat} {f : Addr} {fd : FuncData} {ps : List Str} {x : Str} {n : Nat} {sem : Sem1} {cs : Env → R (List D)}
    (F : FnOk X.prog X.w X.K X.mg X.base CX0 k f fd ps (spF X.K Cl n sem)) (hr : Room k X.A) (hg : Gl X x) (hm : X.mg x = some (.ref f)) (hk : PySem.W.keepIn X.K (.ref f) = true) (hb : Binds X.K fd ps [])
    (ha : Ar X W (e :: es) cs) (hn : (e :: es).length = n := by rfl) (hdb : (x == ("__debug__" : Str)) = false := by decide) (he : starEach (e :: es) X.env = (false, eval e X.env) :: starEach es X.env := by rfl) (hpl : (backTo pos (starEach es X.env)).any (·.1) = false := by rfl)
    (hl : ∀ ρ ds, cs ρ = .ok ds → ds.length = n) : Ex X W (.Call (.Name x p) (e :: es) [] pos) (cA (pureS sem) cs) :=
  ⟨PE_weak (pe_call F hr hg hm hk hb .nil pass0 ha.run hdb he hpl) fun σ H Q ⟨Z, ρ, hd, hr', ho⟩ => by
    refine ⟨Z, ρ, hd, hr', ?_⟩
    unfold cA at ho
    cases hc : cs ρ with
    | ok ds =>
      rw [hc] at ho
      refine fun vs H' e' hv => ?_
      show spF X.K Cl n sem (vs ++ []) H' Q E0
      rw [List.append_nil]
      refine ⟨by rw [dpa_length hv]; exact hl ρ ds hc, Z, ds, hd.mono e', hv, ?_⟩
      have ho := OutE.mono e' ho
      unfold pureS at ho
      rw [R.bind_ok] at ho
      split at ho
      · rename_i d hd'
        rw [hd']
        exact ho
      · exact ho.elim
    | exc x => rw [hc] at ho; exact ho
    | bad => rw [hc] at ho; exact ho⟩
end
end PL

set_option Elab.async false
set_option linter.all false
set_option maxRecDepth 100000
set_option maxHeartbeats 4000000
/-! PL: comprehensions, statements, defs. -/
namespace PL
open PySem PySem.Spec PyProof.Rows L2

/-! ### what is walked -/
structure SrcOk (K : PySem.W.Frag) (ds : List D) (J : It) (G : Hp → Prop) : Prop where
  mono : ∀ H H', Same H H' → G H → G H'
  goes : ∀ i H, i < ds.length → G H → J.go i H
  stops : ∀ H, G H → J.stop ds.length H
  yields : ∀ i H x H' Z, i < ds.length → Dom H Z → G (hid H Z) → J.yld i H x H' → Same H H' ∧ ∃ d, ds[i]? = some d ∧ Dp K (hid H' Z) x d
def iS (K : PySem.W.Frag) (W : WX) (cs : Env → R (List D)) : TI := fun σ H T => ∃ Z ρ, Dom H Z ∧ RepE K (hid H Z) σ ρ ∧ match cs ρ with
  | .ok ds => ∀ J H1 G, Same H H1 → SrcOk K ds J G → G (hid H1 Z) → T J H1
  | .exc x => ∀ H', Same H H' → W x H'
  | .bad => False
structure Src (X : Cx) (W : WX) (tg iter : Expr) (cs : Env → R (List D)) : Prop where
  run : PI X tg iter (iS X.K W cs)
def chars (s : Str) : List D := s.cps.toList.map fun c => .str ⟨#[c]⟩
def srcV : D → R (List D)
  | .list ds => .ok ds
  | .tuple ds => .ok ds
  | .str s => .ok (chars s)
  | _ => .bad
def cSrc (c : CE) : Env → R (List D) := fun ρ => (c ρ).bind srcV
section
variable {K : PySem.W.Frag} {X : Cx} {W : WX} {tg e : Expr} {c : CE} {pos p : Pos}
theorem srcOk_list {a : Addr} {xs : List V} {ds : List D} (hl : xs.length = ds.length) : SrcOk K ds (Itl K a) (fun H => SqL K H a xs ∧ DpAll K H xs ds) where
  mono H H' e q := ⟨sql_same e q.1, dpAll_same e q.2⟩
  goes i H hi q := ⟨xs, xs[i]'(by omega), q.1, by simp [hl, hi]⟩
  stops H q := ⟨xs, q.1, by omega⟩
  yields i H x H' Z hi hd q y := by
    obtain ⟨rfl, y⟩ := y
    obtain ⟨d, h1, h2⟩ := dpa_getV q.2 (y xs (sql_same hid_same q.1))
    exact ⟨Same.refl _, d, h1, h2⟩
theorem srcOk_tup {a : Addr} {xs : List V} {ds : List D} (hl : xs.length = ds.length) : SrcOk K ds (Itt K a) (fun H => SqT K H a xs ∧ DpAll K H xs ds) where
  mono H H' e q := ⟨sqt_same e q.1, dpAll_same e q.2⟩
  goes i H hi q := ⟨xs, xs[i]'(by omega), q.1, by simp [hl, hi]⟩
  stops H q := ⟨xs, q.1, by omega⟩
  yields i H x H' Z hi hd q y := by
    obtain ⟨rfl, y⟩ := y
    obtain ⟨d, h1, h2⟩ := dpa_getV q.2 (y xs (sqt_same hid_same q.1))
    exact ⟨Same.refl _, d, h1, h2⟩
theorem srcOk_str {s : Str} : SrcOk K (chars s) (Its s) (fun _ => True) where
  mono H H' e q := q
  goes i H hi q := by
    unfold chars at hi
    show i < s.cps.size
    simpa using hi
  stops H q := by
    show s.cps.size ≤ (chars s).length
    unfold chars
    simp
  yields i H x H' Z hi hd q y := by
    obtain ⟨rfl, ch, h1, rfl⟩ := y
    refine ⟨Same.refl _, .str ⟨#[ch]⟩, ?_, .str _⟩
    unfold chars
    rw [List.getElem?_map, Array.getElem?_toList, h1]
    rfl
def rngL (lo : Int) (n : Nat) : List D := (List.range n).map fun (i : Nat) => .int (lo + (i : Int))
theorem srcOk_rng {lo : Int} {n : Nat} : SrcOk K (rngL lo n) (Itr lo n) (fun _ => True) where
  mono H H' e q := q
  goes i H hi q := by
    unfold rngL at hi
    show i < n
    simpa using hi
  stops H q := by
    show n ≤ (rngL lo n).length
    unfold rngL
    simp
  yields i H x H' Z hi hd q y := by
    obtain ⟨rfl, rfl⟩ := y
    refine ⟨Same.refl _, .int (lo + (i : Int)), ?_, .int _⟩
    unfold rngL at hi ⊢
    rw [List.getElem?_map, List.getElem?_range (by simpa using hi)]
    rfl
theorem src_val (he : Ex X W e c) : Src X W tg e (cSrc c) := ⟨⟨fun pins s σ H T I h => by
  obtain ⟨Z, ρ, hd, hr, ho⟩ := h
  unfold cSrc at ho
  cases hc : c ρ with
  | ok d =>
    rw [hc] at ho
    cases d with
    | list ds =>
      refine (pi_list he.run).run pins s σ H T I ⟨Z, ρ, hd, hr, ?_⟩
      rw [hc]
      intro v H' e' hv
      cases hv with
      | lst h1 h2 => exact ⟨_, rfl, ⟨_, sql_same hid_same h1⟩, ho _ H' _ e' (srcOk_list (dpa_length h2)) ⟨h1, h2⟩⟩
    | tuple ds =>
      refine (pi_tup he.run).run pins s σ H T I ⟨Z, ρ, hd, hr, ?_⟩
      rw [hc]
      intro v H' e' hv
      cases hv with
      | tup h1 h2 => exact ⟨_, rfl, ⟨_, sqt_same hid_same h1⟩, ho _ H' _ e' (srcOk_tup (dpa_length h2)) ⟨h1, h2⟩⟩
    | str z =>
      refine (pi_str he.run).run pins s σ H T I ⟨Z, ρ, hd, hr, ?_⟩
      rw [hc]
      intro v H' e' hv
      cases hv
      exact ⟨_, rfl, ho _ H' _ e' srcOk_str trivial⟩
    | _ => exact ho.elim
  | exc x =>
    rw [hc] at ho
    refine (pi_list he.run).run pins s σ H T I ⟨Z, ρ, hd, hr, ?_⟩
    rw [hc]
    exact ho
  | bad => rw [hc] at ho; exact ho.elim⟩⟩
def rngOk (i : Int) : Prop := -(2 ^ 62) ≤ i ∧ i < 2 ^ 62
instance (i : Int) : Decidable (rngOk i) := by unfold rngOk; infer_instance
def rng1 : List D → R (List D)
  | [.int j] => if rngOk j then .ok (rngL 0 j.toNat) else .bad
  | _ => .bad
def rng2 : List D → R (List D)
  | [.int i, .int j] => if rngOk i ∧ rngOk j then .ok (rngL i (j - i).toNat) else .bad
  | _ => .bad
theorem rng1_cases (ds : List D) : (∃ j, ds = [.int j] ∧ rngOk j ∧ rng1 ds = .ok (rngL 0 j.toNat)) ∨ rng1 ds = .bad := by
  unfold rng1
  split
  · rename_i j
    by_cases h : rngOk j
    · exact .inl ⟨j, rfl, h, if_pos h⟩
    · exact .inr (if_neg h)
  · exact .inr rfl
theorem rng2_cases (ds : List D) : (∃ i j, ds = [.int i, .int j] ∧ (rngOk i ∧ rngOk j) ∧ rng2 ds = .ok (rngL i (j - i).toNat)) ∨ rng2 ds = .bad := by
  unfold rng2
  split
  · rename_i i j
    by_cases h : rngOk i ∧ rngOk j
    · exact .inl ⟨i, j, rfl, h, if_pos h⟩
    · exact .inr (if_neg h)
  · exact .inr rfl
theorem seqAI {K : PySem.W.Frag} {σ : L2.St} {H : Hp} {Z : Addr → Prop} {ρ : Env} {cs : Env → R (List D)} {f : List D → R (List D)} {T : It → Hp → Prop} {T' : List V → Hp → Prop} (hd : Dom H Z) (hr : RepE K (hid H Z) σ ρ)
    (h : match (cs ρ).bind f with
      | .ok ds => ∀ J H1 G, Same H H1 → SrcOk K ds J G → G (hid H1 Z) → T J H1
      | .exc x => ∀ H', Same H H' → W x H'
      | .bad => False)
    (k : ∀ ds vs H', cs ρ = .ok ds → Same H H' → DpAll K (hid H' Z) vs ds → T' vs H') : tA K W cs σ H T' := by
  refine ⟨Z, ρ, hd, hr, ?_⟩
  cases hc : cs ρ with
  | ok d => exact fun v H' e hv => k d v H' hc e hv
  | exc x => rw [hc] at h; exact h
  | bad => rw [hc] at h; exact h
theorem src_rng1 {a : Expr} {cs : Env → R (List D)} (hg : Gl X "range") (hm : X.mg "range" = none) (ha : Ar X W [a] cs) (hs : starEach [a] X.env = [(false, eval a X.env)] := by rfl) :
    Src X W tg (.Call (.Name "range" p) [a] [] pos) (fun ρ => (cs ρ).bind rng1) := ⟨⟨fun pins s σ H T I ⟨Z, ρ, hd, hr, ho⟩ => by
  refine (pi_range1 hg hm ha.run hs).run pins s σ H T I (seqAI hd hr ho fun ds vs H' hc e hv => ?_)
  dsimp only at ho
  rw [hc, R.bind_ok] at ho
  rcases rng1_cases ds with ⟨j, rfl, hj, hq⟩ | hq
  · rw [hq] at ho
    cases hv with
    | cons h t =>
      cases h; cases t
      exact ⟨j, rfl, hj.1, hj.2, ho _ H' _ e srcOk_rng trivial⟩
  · rw [hq] at ho
    exact ho.elim⟩⟩
theorem src_rng2 {a b : Expr} {cs : Env → R (List D)} (hg : Gl X "range") (hm : X.mg "range" = none) (ha : Ar X W [a, b] cs) (hs : starEach [a, b] X.env = [(false, eval a X.env), (false, eval b X.env)] := by rfl) (hs2 : starEach [b] X.env = [(false, eval b X.env)] := by rfl) :
    Src X W tg (.Call (.Name "range" p) [a, b] [] pos) (fun ρ => (cs ρ).bind rng2) := ⟨⟨fun pins s σ H T I ⟨Z, ρ, hd, hr, ho⟩ => by
  refine (pi_range2 hg hm ha.run hs hs2).run pins s σ H T I (seqAI hd hr ho fun ds vs H' hc e hv => ?_)
  dsimp only at ho
  rw [hc, R.bind_ok] at ho
  rcases rng2_cases ds with ⟨i, j, rfl, hj, hq⟩ | hq
  · rw [hq] at ho
    cases hv with
    | cons h t =>
      cases t with
      | cons h' t' =>
        cases h; cases h'; cases t'
        exact ⟨i, j, rfl, ⟨hj.1.1, hj.1.2, hj.2.1, hj.2.2⟩, ho _ H' _ e srcOk_rng trivial⟩
  · rw [hq] at ho
    exact ho.elim⟩⟩
end

/-! ### targets (expressions' level) -/
def wipeE (ρ : Env) : List Nat → Env
  | [] => ρ
  | v :: vs => (wipeE ρ vs).set v none
abbrev Tgt := D → Env → Option Env
structure Tg (K : PySem.W.Frag) (vs : List Nat) (g : TG) (t : Tgt) : Prop where
  run : ∀ (h H : Hp) (v : V) (d : D) (σ : L2.St) (ρ ρ1 : Env) (Q : L2.St → Hp → Prop), Same h H → RepE K h σ ρ → Dp K h v d → t d ρ = some ρ1 → (∀ σ1, RepE K h σ1 ρ1 → wipe σ1 vs = wipe σ vs → Q σ1 H) → g v σ H Q
theorem set_get {α : Type} {l : List α} {i j : Nat} {x y : α} (h : (l.set i x)[j]? = some y) : (j = i ∧ i < l.length ∧ y = x) ∨ (j ≠ i ∧ l[j]? = some y) := by
  by_cases e : i = j
  · subst e
    by_cases hl : i < l.length
    · rw [List.getElem?_set_self hl] at h; exact .inl ⟨rfl, hl, (Option.some.inj h).symm⟩
    · rw [List.getElem?_eq_none (by rw [List.length_set]; omega)] at h; cases h
  · rw [List.getElem?_set_ne e] at h
    exact .inr ⟨fun z => e z.symm, h⟩
theorem RepE.set {K : PySem.W.Frag} {H : Hp} {σ : L2.St} {ρ : Env} {i : Nat} {v : V} {d : D} (r : RepE K H σ ρ) (h : Dp K H v d) : RepE K H (σ.set i (some v)) (ρ.set i (some d)) := by
  refine ⟨by rw [List.length_set, List.length_set]; exact r.len, fun j d' e => ?_⟩
  rcases set_get e with ⟨rfl, hl, e2⟩ | ⟨hne, e2⟩
  · cases e2
    exact ⟨v, List.getElem?_set_self (Nat.lt_of_lt_of_le hl r.len), h⟩
  · rw [List.getElem?_set_ne (Ne.symm hne)]
    exact r.get j d' e2
theorem RepE.unset {K : PySem.W.Frag} {H : Hp} {σ : L2.St} {ρ : Env} {i : Nat} (r : RepE K H σ ρ) : RepE K H (σ.set i none) (ρ.set i none) := by
  refine ⟨by rw [List.length_set, List.length_set]; exact r.len, fun j d' e => ?_⟩
  rcases set_get e with ⟨rfl, hl, e2⟩ | ⟨hne, e2⟩
  · cases e2
  · rw [List.getElem?_set_ne (Ne.symm hne)]
    exact r.get j d' e2
theorem RepE.wipe {K : PySem.W.Frag} {H : Hp} {σ : L2.St} {ρ : Env} (r : RepE K H σ ρ) : ∀ vs : List Nat, RepE K H (L2.wipe σ vs) (wipeE ρ vs)
  | [] => r
  | v :: vs => (RepE.wipe r vs).unset
theorem wipe_ext {σ τ : L2.St} : ∀ (vs : List Nat), σ.length = τ.length → (∀ i, i ∉ vs → σ[i]? = τ[i]?) → L2.wipe σ vs = L2.wipe τ vs := by
  intro vs hl h
  apply List.ext_getElem?
  intro i
  by_cases hi : i ∈ vs
  · have key : ∀ (ζ : L2.St) (ws : List Nat), i ∈ ws → i < ζ.length → (L2.wipe ζ ws)[i]? = some none := by
      intro ζ ws
      induction ws with
      | nil => intro h; cases h
      | cons w ws ih =>
        intro hm hlen
        unfold L2.wipe
        by_cases e : w = i
        · subst e; exact List.getElem?_set_self (by rw [wipe_length]; exact hlen)
        · rw [List.getElem?_set_ne e]
          rcases List.mem_cons.mp hm with z | z
          · exact (e z.symm).elim
          · exact ih z hlen
    by_cases hlen : i < σ.length
    · rw [key σ vs hi hlen, key τ vs hi (hl ▸ hlen)]
    · rw [List.getElem?_eq_none (by rw [wipe_length]; omega), List.getElem?_eq_none (by rw [wipe_length]; omega)]
  · rw [wipe_out hi, wipe_out hi]
    exact h i hi
theorem wipe_set {σ : L2.St} {vs : List Nat} {i : Nat} {x : Option V} (h : i ∈ vs) : L2.wipe (σ.set i x) vs = L2.wipe σ vs :=
  wipe_ext vs (List.length_set ..) fun j hj => List.getElem?_set_ne (fun e : i = j => hj (by rw [← e]; exact h))
theorem wipe_wipe {σ : L2.St} {vs : List Nat} : L2.wipe (L2.wipe σ vs) vs = L2.wipe σ vs := wipe_ext vs (wipe_length ..) fun j hj => wipe_out hj
def tName (i : Nat) : Tgt := fun d ρ => some (ρ.set i (some d))
def tPair (i j : Nat) : Tgt := fun d ρ => match d with
  | .tuple [a, b] => some ((ρ.set i (some a)).set j (some b))
  | _ => none
theorem tg_name {K : PySem.W.Frag} {vs : List Nat} {i : Nat} (hi : i ∈ vs) : Tg K vs (gName i) (tName i) := ⟨fun h H v d σ ρ ρ1 Q e r hv ht k => by
  cases ht
  exact k _ (r.set hv) (wipe_set hi)⟩
theorem tg_pair {K : PySem.W.Frag} {vs : List Nat} {i j : Nat} (hi : i ∈ vs) (hj : j ∈ vs) : Tg K vs (gTup K 2 (gCons (gName i) (gCons (gName j) gNil))) (tPair i j) := ⟨fun h H v d σ ρ ρ1 Q e r hv ht k => by
  unfold tPair at ht
  split at ht
  · cases ht
    cases hv with
    | tup h1 h2 =>
      cases h2 with
      | cons q1 t1 =>
        cases t1 with
        | cons q2 t2 =>
          cases t2
          exact ⟨_, _, rfl, sqt_same e h1, rfl, _, _, rfl, _, _, rfl, rfl, k _ ((r.set q1).set q2) (by rw [wipe_set hj, wipe_set hi])⟩
  · cases ht⟩

/-! ### comprehensions -/
def noExc {α : Type} : R α → R α
  | .ok a => .ok a
  | _ => .bad
def lcLoop (t : Tgt) (cond elt : CE) (ρ : Env) : List D → R (List D)
  | [] => .ok []
  | d :: ds => match t d ρ with
    | none => .bad
    | some ρ1 => (cond ρ1).bind fun b => match b with
      | .bool true => (elt ρ1).bind fun x => (lcLoop t cond elt ρ ds).bind fun xs => .ok (x :: xs)
      | .bool false => lcLoop t cond elt ρ ds
      | _ => .bad
def cLc (cs : Env → R (List D)) (vs : List Nat) (t : Tgt) (cond elt : CE) : CE := fun ρ => (cs ρ).bind fun ds =>
  if ds.length ≤ sizeLine then (noExc (lcLoop t cond elt (wipeE ρ vs) ds)).bind fun xs => .ok (.list xs) else .bad
theorem lcLoop_cons {t : Tgt} {cond elt : CE} {ρ : Env} {d : D} {ds all : List D} (h : lcLoop t cond elt ρ (d :: ds) = .ok all) :
    ∃ ρ1, t d ρ = some ρ1 ∧ ((∃ x xs, cond ρ1 = .ok (.bool true) ∧ elt ρ1 = .ok x ∧ lcLoop t cond elt ρ ds = .ok xs ∧ all = x :: xs) ∨ (cond ρ1 = .ok (.bool false) ∧ lcLoop t cond elt ρ ds = .ok all)) := by
  unfold lcLoop at h
  split at h
  · cases h
  · rename_i ρ1 ht
    refine ⟨ρ1, ht, ?_⟩
    cases hc : cond ρ1 with
    | bad => rw [hc] at h; cases h
    | exc x => rw [hc] at h; cases h
    | ok b =>
      rw [hc, R.bind_ok] at h
      split at h
      · cases he : elt ρ1 with
        | bad => rw [he] at h; cases h
        | exc x => rw [he] at h; cases h
        | ok x =>
          rw [he, R.bind_ok] at h
          cases hl : lcLoop t cond elt ρ ds with
          | bad => rw [hl] at h; cases h
          | exc x => rw [hl] at h; cases h
          | ok xs =>
            rw [hl, R.bind_ok] at h
            cases h
            exact .inl ⟨x, xs, rfl, rfl, rfl, rfl⟩
      · exact .inr ⟨rfl, h⟩
      · cases h
section
variable {K : PySem.W.Frag} {W : WX}
theorem walk_of_src {ds : List D} {J : It} {G : Hp → Prop} (s : SrcOk K ds J G) : Walk J ds.length G (fun i H x H' => J.yld i H x H') :=
  ⟨s.goes, s.stops, fun _ _ _ _ _ _ y => y⟩
theorem lc_of {cs : Env → R (List D)} {g : TG} {t : Tgt} {cond elt : CE} {tt : TT} {vs : List Nat} {σ : L2.St} {H : Hp} {Q : VK} (htg : Tg K vs g t)
    (htt : ∀ σ H Q, tT K W0 cond σ H Q → tt σ H Q) (h : tE K W (cLc cs vs t cond elt) σ H Q) : tLc (iS K W cs) g tt (tE K W0 elt) vs σ H Q := by
  obtain ⟨Z, ρ, hd, hr, ho⟩ := h
  refine ⟨Z, ρ, hd, hr, ?_⟩
  unfold cLc at ho
  cases hc : cs ρ with
  | exc x => rw [hc] at ho; exact ho
  | bad => rw [hc] at ho; exact ho
  | ok ds =>
    rw [hc, R.bind_ok] at ho
    split at ho
    · rename_i hsz
      cases hl : lcLoop t cond elt (wipeE ρ vs) ds with
      | exc x => rw [hl] at ho; exact ho.elim
      | bad => rw [hl] at ho; exact ho.elim
      | ok all =>
        rw [hl] at ho
        show ∀ J H1 G, Same H H1 → SrcOk K ds J G → G (hid H1 Z) → _
        intro J H1 G e1 so hG Dl hD
        have hDZ : ¬ Z Dl := (hd.mono e1).out hD
        refine lc_it (walk_of_src so) (fun i H' => ∃ acc done rest, Same H1 H' ∧ H' Dl = some (.lst acc) ∧ acc.length ≤ i ∧ DpAll K (hid H' fun a => Z a ∨ a = Dl) acc done ∧ lcLoop t cond elt (wipeE ρ vs) (ds.drop i) = .ok rest ∧ done ++ rest = all) ?_ ?_ ?_ ?_
        · exact ⟨[], [], all, same_new hD, upd_same, Nat.le_refl _, .nil, hl, rfl⟩
        · rintro i H' hi ⟨acc, done, rest, e2, _⟩
          exact so.mono _ _ e2 (so.mono _ _ hid_same hG)
        · rintro i x H2 H3 hi ⟨acc, done, rest, e2, hacc, hal, hdp, hlp, hall⟩ y
          have hsub : Same (hid H1 Z) (hid H2 fun a => Z a ∨ a = Dl) := fun b o hb => by
            obtain ⟨hz, hb⟩ := hid_some hb
            exact hid_mk (fun z => z.elim hz fun z => by rw [z, hD] at hb; cases hb) (e2 b o hb)
          have hd2 : Dom H2 (fun a => Z a ∨ a = Dl) := fun a z q => by
            rcases z with z | z
            · exact (hd.mono (e1.trans e2)) a z q
            · rw [z, hacc] at q; cases q
          obtain ⟨e3, d, hdi, hdx⟩ := so.yields i H2 x H3 _ hi hd2 (so.mono _ _ hsub hG) y
          have hdr : ds.drop i = d :: ds.drop (i + 1) := by
            rw [List.drop_eq_getElem_cons hi]
            rw [List.getElem?_eq_getElem hi] at hdi
            rw [Option.some.inj hdi]
          rw [hdr] at hlp
          obtain ⟨ρ1, ht, hcase⟩ := lcLoop_cons hlp
          have hr3 : RepE K (hid H3 fun a => Z a ∨ a = Dl) (L2.wipe σ vs) (wipeE ρ vs) := ((hr.mono (hid_mono e1)).mono (hsub.trans (hid_mono e3))).wipe vs
          refine htg.run _ H3 x d _ _ ρ1 _ hid_same hr3 hdx ht fun σ1 r1 hw => ⟨hw.trans wipe_wipe, htt _ _ _ ⟨_, ρ1, hd2.mono e3, r1, ?_⟩⟩
          have hacc3 : H3 Dl = some (.lst acc) := e3 _ _ hacc
          rcases hcase with ⟨z, zs, hcd, hel, hrest, hall2⟩ | ⟨hcd, hrest⟩
          · rw [hcd]
            intro H4 e4
            rw [if_pos rfl]
            refine ⟨_, ρ1, (hd2.mono e3).mono e4, r1.mono (hid_mono e4), ?_⟩
            rw [hel]
            intro v H5 e5 hv
            refine ⟨acc, e5 _ _ (e4 _ _ hacc3), by omega, acc ++ [v], done ++ [z], zs, ?_, upd_same, by rw [List.length_append]; exact Nat.succ_le_succ hal, ?_, hrest, ?_⟩
            · intro b o hb
              rw [upd_ne (ne_of_none hb hD)]
              exact e5 b o (e4 b o (e3 b o (e2 b o hb)))
            · have hh : hid (upd H5 Dl (.lst (acc ++ [v]))) (fun a => Z a ∨ a = Dl) = hid H5 (fun a => Z a ∨ a = Dl) := by
                funext b
                by_cases hb : Z b ∨ b = Dl
                · rw [hid_in hb, hid_in hb]
                · rw [hid_out hb, hid_out hb, upd_ne fun z => hb (.inr z)]
              rw [hh]
              exact dpa_append (dpAll_same (hid_mono (e3.trans (e4.trans e5))) hdp) (dpa_one hv)
            · rw [List.append_assoc]; rw [← hall, hall2]; rfl
          · rw [hcd]
            intro H4 e4
            rw [if_neg Bool.false_ne_true]
            exact ⟨acc, done, rest, e2.trans (e3.trans e4), e4 _ _ hacc3, Nat.le_succ_of_le hal, dpAll_same (hid_mono (e3.trans e4)) hdp, hrest, hall⟩
        · rintro H2 ⟨acc, done, rest, e2, hacc, hal, hdp, hlp, hall⟩
          rw [List.drop_length] at hlp
          cases hlp
          rw [List.append_nil] at hall
          subst hall
          refine ho _ H2 (e1.trans e2) (.lst (.inl (.inl (hid_mk hDZ hacc))) (dpAll_same (fun b o hb => ?_) hdp))
          obtain ⟨hz, hb⟩ := hid_some hb
          exact hid_mk (fun z => hz (.inl z)) hb
    · exact ho.elim
end
section
variable {X : Cx} {W : WX}
theorem ex_lc {elt tg iter : Expr} {ifs : List Expr} {scope : Scope} {own : List (Str × Nat)} {pos : Pos} {g : TG} {t : Tgt} {cs : Env → R (List D)} {cond ce : CE} {tt : TT} (hc : X.calm = true) (hN : X.N.Nodup) (hi : Src X W tg iter cs) (ok : BlkOk X.N X.env.scope scope own)
    (hg : ∀ (s : Shared) (H : Hp) (C : Addr) (cl : List (Str × Addr)) (fp : List Addr), PG (X.blk s H scope (compEnvC scope cl C X.env) fp) tg g) (ht : ∀ (s : Shared) (H : Hp) (C : Addr) (cl : List (Str × Addr)) (fp : List Addr), PTs (X.blk s H scope (compEnvC scope cl C X.env) fp) ifs tt)
    (he : ∀ (s : Shared) (H : Hp) (C : Addr) (cl : List (Str × Addr)) (fp : List Addr), Ex (X.blk s H scope (compEnvC scope cl C X.env) fp) W0 elt ce) (htg : Tg X.K (own.map (·.2)) g t) (htt : ∀ σ H Q, tT X.K W0 cond σ H Q → tt σ H Q)
    (hs : ∀ x, foldedSetIterable iter X.env x = pure x := by intro _; rfl) :
    Ex X W (.ListComp elt [⟨tg, iter, ifs, 0⟩] scope pos) (cLc cs (own.map (·.2)) t cond ce) :=
  ⟨PE_weak (pe_lc hc hN hi.run ok hg ht (fun s H C cl fp => (he s H C cl fp).run) hs) fun _ _ _ h => lc_of htg htt h⟩
theorem tt_yes {K : PySem.W.Frag} (σ : L2.St) (H : Hp) (Q : Bool → Hp → Prop) (h : tT K W0 (cC (.bool true)) σ H Q) : tYes σ H Q := by
  obtain ⟨Z, ρ, hd, hr, ho⟩ := h
  exact ho H (Same.refl _)
end
end PL

set_option Elab.async false
set_option linter.all false
set_option maxRecDepth 100000
set_option maxHeartbeats 4000000
/-! PL: statements, defs. -/
namespace PL
open PySem PySem.Spec PyProof.Rows L2

/-- a slot: nothing, data, a list of one's own that may be changed -/
inductive Sl where
  | non | val (d : D) | own (ds : List D)
abbrev SE := List Sl
def Sl.v : Sl → Option D
  | .val d => some d
  | _ => none
def Sl.f : Sl → Option D
  | .val d => some d
  | .own ds => some (.list ds)
  | .non => none
def vE (ρ : SE) : Env := ρ.map Sl.v
def fE (ρ : SE) : Env := ρ.map Sl.f
def Own (σ : L2.St) (ρ : SE) (a : Addr) : Prop := ∃ (i : Nat) (ds : List D), ρ[i]? = some (.own ds) ∧ σ[i]? = some (some (.ref a))
def ZO (Z : Addr → Prop) (σ : L2.St) (ρ : SE) (a : Addr) : Prop := Z a ∨ Own σ ρ a
structure RepS (K : PySem.W.Frag) (Z : Addr → Prop) (H : Hp) (σ : L2.St) (ρ : SE) : Prop where
  len : ρ.length ≤ σ.length
  dom : Dom H Z
  vals : ∀ (i : Nat) d, ρ[i]? = some (.val d) → ∃ v, σ[i]? = some (some v) ∧ Dp K (hid H (ZO Z σ ρ)) v d
  owns : ∀ (i : Nat) ds, ρ[i]? = some (.own ds) → ∃ a vs, σ[i]? = some (some (.ref a)) ∧ ¬ Z a ∧ H a = some (.lst vs) ∧ DpAll K (hid H (ZO Z σ ρ)) vs ds
  dist : ∀ (i j : Nat) a ds es, ρ[i]? = some (.own ds) → ρ[j]? = some (.own es) → σ[i]? = some (some (.ref a)) → σ[j]? = some (some (.ref a)) → i = j
inductive RS where
  | nx (ρ : SE) | rt (d : D) | bk (ρ : SE) | ct (ρ : SE) | exc (x : Nat) | bad
abbrev CS := SE → RS
section
variable {K : PySem.W.Frag} {W : WX} {Z : Addr → Prop} {H H' H1 H2 : Hp} {σ σ' τ : L2.St} {ρ ρ' : SE}
theorem RepS.ownL (r : RepS K Z H σ ρ) {a : Addr} (h : Own σ ρ a) : ∃ vs, H a = some (.lst vs) := by
  obtain ⟨i, ds, h1, h2⟩ := h
  obtain ⟨b, vs, e1, _, e2, _⟩ := r.owns i ds h1
  rw [h2] at e1
  cases e1
  exact ⟨vs, e2⟩
theorem RepS.domO (r : RepS K Z H σ ρ) : Dom H (ZO Z σ ρ) := fun a z q => by
  rcases z with z | z
  · exact r.dom a z q
  · obtain ⟨vs, e⟩ := r.ownL z
    rw [e] at q; cases q
theorem RepS.v (r : RepS K Z H σ ρ) : RepE K (hid H (ZO Z σ ρ)) σ (vE ρ) := by
  refine ⟨by unfold vE; rw [List.length_map]; exact r.len, fun i d h => ?_⟩
  unfold vE at h
  rw [List.getElem?_map] at h
  cases e : ρ[i]? with
  | none => rw [e] at h; cases h
  | some x =>
    rw [e] at h
    cases x with
    | val d' => cases h; exact r.vals i d e
    | own ds => cases h
    | non => cases h
theorem hid_less {Z' : Addr → Prop} (h : ∀ a, Z a → Z' a) : Same (hid H Z') (hid H Z) := fun b o e => by
  obtain ⟨z, q⟩ := hid_some e
  exact hid_mk (fun y => z (h b y)) q
theorem RepS.f (r : RepS K Z H σ ρ) : RepE K (hid H Z) σ (fE ρ) := by
  refine ⟨by unfold fE; rw [List.length_map]; exact r.len, fun i d h => ?_⟩
  unfold fE at h
  rw [List.getElem?_map] at h
  cases e : ρ[i]? with
  | none => rw [e] at h; cases h
  | some x =>
    rw [e] at h
    cases x with
    | val d' =>
      cases h
      obtain ⟨v, h1, h2⟩ := r.vals i d e
      exact ⟨v, h1, dp_same (hid_less fun a z => .inl z) h2⟩
    | own ds =>
      cases h
      obtain ⟨a, vs, h1, h2, h3, h4⟩ := r.owns i ds e
      exact ⟨_, h1, .lst (.inl (.inl (hid_mk h2 h3))) (dpAll_same (hid_less fun a z => .inl z) h4)⟩
    | non => cases h
theorem RepS.mono (r : RepS K Z H σ ρ) (e : Same H H') : RepS K Z H' σ ρ where
  len := r.len
  dom := r.dom.mono e
  vals i d h := by
    obtain ⟨v, h1, h2⟩ := r.vals i d h
    exact ⟨v, h1, dp_same (hid_mono e) h2⟩
  owns i ds h := by
    obtain ⟨a, vs, h1, h2, h3, h4⟩ := r.owns i ds h
    exact ⟨a, vs, h1, h2, e _ _ h3, dpAll_same (hid_mono e) h4⟩
  dist := r.dist

theorem fr_zo (e : Same (hid H (Own σ ρ)) (hid H' (Own σ' ρ'))) : Same (hid H (ZO Z σ ρ)) (hid H' (ZO Z σ' ρ')) := fun b o h => by
  obtain ⟨z, h⟩ := hid_some h
  obtain ⟨z2, h2⟩ := hid_some (e b o (hid_mk (fun y => z (.inr y)) h))
  exact hid_mk (fun y => y.elim (fun y => z (.inl y)) z2) h2
def OutS (K : PySem.W.Frag) (W : WX) (Z : Addr → Prop) (D : Ends) (σ : L2.St) (ρ : SE) (H : Hp) (r : RS) : Prop := match r with
  | .nx ρ' => ∀ σ' H', RepS K Z H' σ' ρ' → Same (hid H (Own σ ρ)) (hid H' (Own σ' ρ')) → D.nx σ' H'
  | .bk ρ' => ∀ σ' H', RepS K Z H' σ' ρ' → Same (hid H (Own σ ρ)) (hid H' (Own σ' ρ')) → D.bk σ' H'
  | .ct ρ' => ∀ σ' H', RepS K Z H' σ' ρ' → Same (hid H (Own σ ρ)) (hid H' (Own σ' ρ')) → D.ct σ' H'
  | .rt d => ∀ v H', Same (hid H (Own σ ρ)) H' → Dp K (hid H' Z) v d → D.rt v H'
  | .exc x => ∀ H', Same (hid H (Own σ ρ)) H' → W x H'
  | .bad => False
theorem OutS.move {D : Ends} {r : RS} (h : OutS K W Z D σ ρ H r) (e : Same (hid H (Own σ ρ)) (hid H' (Own σ' ρ'))) : OutS K W Z D σ' ρ' H' r := by
  cases r with
  | nx ρ2 => exact fun σ2 H2 r2 e2 => h σ2 H2 r2 (e.trans e2)
  | bk ρ2 => exact fun σ2 H2 r2 e2 => h σ2 H2 r2 (e.trans e2)
  | ct ρ2 => exact fun σ2 H2 r2 e2 => h σ2 H2 r2 (e.trans e2)
  | rt d => exact fun v H2 e2 hd => h v H2 (e.trans e2) hd
  | exc x => exact fun H2 e2 => h H2 (e.trans e2)
  | bad => exact h
theorem OutS.grow {D : Ends} {r : RS} (h : OutS K W Z D σ ρ H r) (e : Same H H') : OutS K W Z D σ ρ H' r := h.move (hid_mono e)
end
def tS (K : PySem.W.Frag) (W : WX) (c : CS) : TS := fun D σ H => ∃ Z ρ, RepS K Z H σ ρ ∧ OutS K W Z D σ ρ H (c ρ)
structure Sm (X : Cx) (W : WX) (st : Stmt) (c : CS) : Prop where
  run : PS X st (tS X.K W c)
structure Sms (X : Cx) (W : WX) (sts : List Stmt) (c : CS) : Prop where
  run : PSs X sts (tS X.K W c)
theorem PS_weak {X : Cx} {e : Stmt} {t t' : TS} (h : PS X e t) (hw : ∀ D σ H, t' D σ H → t D σ H) : PS X e t' := ⟨fun pins s σ H D I q => h.run pins s σ H D I (hw D σ H q)⟩
theorem PSs_weak {X : Cx} {e : List Stmt} {t t' : TS} (h : PSs X e t) (hw : ∀ D σ H, t' D σ H → t D σ H) : PSs X e t' := ⟨fun pins s σ H D I q => h.run pins s σ H D I (hw D σ H q)⟩

/-! ### data without lists -/
mutual
def lf : D → Bool
  | .list _ => false
  | .tuple ds => lfAll ds
  | .dict _ => false
  | .none => true
  | .bool _ => true
  | .int _ => true
  | .str _ => true
def lfAll : List D → Bool
  | [] => true
  | d :: ds => lf d && lfAll ds
end
section
variable {K : PySem.W.Frag} {H : Hp} {Z Z' : Addr → Prop}
theorem sqt_hide {a : Addr} {xs : List V} (hz : ∀ a, Z' a → ¬ Z a → ∃ vs, H a = some (.lst vs)) (h : SqT K (hid H Z) a xs) : SqT K (hid H Z') a xs := by
  have key : ∀ {o : HO}, hid H Z a = some o → (∀ vs, o ≠ .lst vs) → hid H Z' a = some o := fun {o} e hn => by
    obtain ⟨z, e⟩ := hid_some e
    refine hid_mk (fun z' => ?_) e
    obtain ⟨vs, q⟩ := hz a z' z
    rw [e] at q
    exact hn vs (Option.some.inj q)
  rcases h with (h | ⟨o, h⟩) | h
  · exact .inl (.inl (key h fun vs => nofun))
  · exact .inl (.inr ⟨o, key h fun vs => nofun⟩)
  · exact .inr h
mutual
theorem dp_hide (hz : ∀ a, Z' a → ¬ Z a → ∃ vs, H a = some (.lst vs)) : ∀ (d : D) (v : V), Dp K (hid H Z) v d → lf d = true → Dp K (hid H Z') v d
  | .none, _, h, _ => by cases h; exact .non
  | .bool b, _, h, _ => by cases h; exact .bl b
  | .int b, _, h, _ => by cases h; exact .int b
  | .str b, _, h, _ => by cases h; exact .str b
  | .list ds, _, _, e => by unfold lf at e; cases e
  | .dict ds, _, _, e => by unfold lf at e; cases e
  | .tuple ds, _, h, e => by
    cases h with
    | tup h1 h2 =>
      unfold lf at e
      exact .tup (sqt_hide hz h1) (dpAll_hide hz ds _ h2 e)
theorem dpAll_hide (hz : ∀ a, Z' a → ¬ Z a → ∃ vs, H a = some (.lst vs)) : ∀ (ds : List D) (vs : List V), DpAll K (hid H Z) vs ds → lfAll ds = true → DpAll K (hid H Z') vs ds
  | [], _, h, _ => by cases h; exact .nil
  | d :: ds, _, h, e => by
    cases h with
    | cons h1 h2 =>
      unfold lfAll at e
      rw [Bool.and_eq_true] at e
      exact .cons (dp_hide hz d _ h1 e.1) (dpAll_hide hz ds _ h2 e.2)
end
end

/-! ### an expression within a statement -/
/-- its value may be stored: it is made without the own lists, or holds no list -/
def hEv (c : CE) (ρ : SE) : R D := match c (vE ρ) with
  | .ok d => .ok d
  | .exc x => .exc x
  | .bad => match c (fE ρ) with
    | .ok d => if lf d then .ok d else .bad
    | .exc x => .exc x
    | .bad => .bad
section
variable {K : PySem.W.Frag} {W : WX} {Z : Addr → Prop} {H : Hp} {σ : L2.St} {ρ : SE} {c : CE}
theorem hEv_run {Q : VK} (r : RepS K Z H σ ρ) (h : match hEv c ρ with
      | .ok d => ∀ v H', Same H H' → Dp K (hid H' (ZO Z σ ρ)) v d → Q v H'
      | .exc x => ∀ H', Same H H' → W x H'
      | .bad => False) : tE K W c σ H Q := by
  unfold hEv at h
  cases hv : c (vE ρ) with
  | ok d =>
    rw [hv] at h
    refine ⟨_, vE ρ, r.domO, r.v, ?_⟩
    rw [hv]
    exact h
  | exc x =>
    rw [hv] at h
    refine ⟨_, vE ρ, r.domO, r.v, ?_⟩
    rw [hv]
    exact h
  | bad =>
    rw [hv] at h
    dsimp only at h
    refine ⟨Z, fE ρ, r.dom, r.f, ?_⟩
    cases hf : c (fE ρ) with
    | ok d =>
      rw [hf] at h
      dsimp only at h
      by_cases hl : lf d = true
      · rw [if_pos hl] at h
        exact fun v H' e hv => h v H' e (dp_hide (fun a z nz => by
          rcases z with z | z
          · exact (nz z).elim
          · obtain ⟨vs, q⟩ := r.ownL z
            exact ⟨vs, e _ _ q⟩) d v hv hl)
      · rw [if_neg hl] at h
        exact h.elim
    | exc x => rw [hf] at h; exact h
    | bad => rw [hf] at h; exact h
/-- its value as it comes -/
theorem fEv_run {Q : VK} (r : RepS K Z H σ ρ) (h : OutE K W H Z (c (fE ρ)) Q) : tE K W c σ H Q := ⟨Z, fE ρ, r.dom, r.f, h⟩
/-- a slot is stored -/
theorem RepS.set {i : Nat} {v : V} {d : D} (r : RepS K Z H σ ρ) (h : Dp K (hid H (ZO Z σ ρ)) v d) :
    RepS K Z H (σ.set i (some v)) (ρ.set i (.val d)) ∧ Same (hid H (Own σ ρ)) (hid H (Own (σ.set i (some v)) (ρ.set i (.val d)))) := by
  have hO1 : ∀ a, Own (σ.set i (some v)) (ρ.set i (.val d)) a → Own σ ρ a := fun a ⟨j, ds, h1, h2⟩ => by
    rcases set_get h1 with ⟨rfl, hl, e⟩ | ⟨hne, e⟩
    · cases e
    · rw [List.getElem?_set_ne (Ne.symm hne)] at h2
      exact ⟨j, ds, e, h2⟩
  have hO : ∀ a, ZO Z (σ.set i (some v)) (ρ.set i (.val d)) a → ZO Z σ ρ a := fun a z => z.elim .inl fun z => .inr (hO1 a z)
  refine ⟨⟨by rw [List.length_set, List.length_set]; exact r.len, r.dom, fun j d' e => ?_, fun j ds e => ?_, fun j k a ds es e1 e2 e3 e4 => ?_⟩, hid_less hO1⟩
  · rcases set_get e with ⟨rfl, hl, e2⟩ | ⟨hne, e2⟩
    · cases e2
      exact ⟨v, List.getElem?_set_self (Nat.lt_of_lt_of_le hl r.len), dp_same (hid_less hO) h⟩
    · rw [List.getElem?_set_ne (Ne.symm hne)]
      obtain ⟨w, h1, h2⟩ := r.vals j d' e2
      exact ⟨w, h1, dp_same (hid_less hO) h2⟩
  · rcases set_get e with ⟨rfl, hl, e2⟩ | ⟨hne, e2⟩
    · cases e2
    · rw [List.getElem?_set_ne (Ne.symm hne)]
      obtain ⟨a, vs, h1, h2, h3, h4⟩ := r.owns j ds e2
      exact ⟨a, vs, h1, h2, h3, dpAll_same (hid_less hO) h4⟩
  · rcases set_get e1 with ⟨rfl, hl, q⟩ | ⟨hne, q⟩
    · cases q
    · rcases set_get e2 with ⟨rfl, hl, q2⟩ | ⟨hne2, q2⟩
      · cases q2
      · rw [List.getElem?_set_ne (Ne.symm hne)] at e3
        rw [List.getElem?_set_ne (Ne.symm hne2)] at e4
        exact r.dist j k a ds es q q2 e3 e4
end

/-! ### small statements -/
section
variable {X : Cx} {W : WX} {e : Expr} {c : CE} {st : Stmt} {rest : List Stmt} {s1 s2 : CS} {pos : Pos}
def sNext : CS := .nx
def sSeq (a b : CS) : CS := fun ρ => match a ρ with
  | .nx ρ' => b ρ'
  | r => r
theorem sms_nil : Sms X W [] sNext := ⟨PSs_weak pss_nil fun D σ H ⟨Z, ρ, r, o⟩ => o σ H r (Same.refl _)⟩
theorem sms_cons (h1 : Sm X W st s1) (h2 : Sms X W rest s2) : Sms X W (st :: rest) (sSeq s1 s2) := ⟨PSs_weak (pss_cons h1.run h2.run) fun D σ H ⟨Z, ρ, r, o⟩ => by
  refine ⟨Z, ρ, r, ?_⟩
  unfold sSeq at o
  cases q : s1 ρ with
  | nx ρ' =>
    rw [q] at o
    exact fun σ' H' r' e => ⟨Z, ρ', r', OutS.move o e⟩
  | _ => rw [q] at o; exact o⟩
theorem sms_one (h1 : Sm X W st s1) : Sms X W [st] s1 := ⟨PSs_weak (pss_one h1.run) fun D σ H h => h⟩
theorem sm_pass : Sm X W (.Pass pos) sNext := ⟨PS_weak ps_pass fun D σ H ⟨Z, ρ, r, o⟩ => o σ H r (Same.refl _)⟩
theorem sm_break : Sm X W (.Break pos) .bk := ⟨PS_weak ps_break fun D σ H ⟨Z, ρ, r, o⟩ => o σ H r (Same.refl _)⟩
theorem sm_cont : Sm X W (.Continue pos) .ct := ⟨PS_weak ps_continue fun D σ H ⟨Z, ρ, r, o⟩ => o σ H r (Same.refl _)⟩
def sRet (c : CE) : CS := fun ρ => match c (fE ρ) with
  | .ok d => .rt d
  | .exc x => .exc x
  | .bad => .bad
theorem sm_ret (he : Ex X W e c) : Sm X W (.Return (some e) pos) (sRet c) := ⟨PS_weak (ps_ret he.run) fun D σ H ⟨Z, ρ, r, o⟩ => by
  refine fEv_run r ?_
  unfold sRet at o
  cases q : c (fE ρ) with
  | ok d => rw [q] at o; exact fun v H' e' hv => o v H' (hid_same.trans e') hv
  | exc x => rw [q] at o; exact fun H' e' => o H' (hid_same.trans e')
  | bad => rw [q] at o; exact o⟩
def sAsg (i : Nat) (c : CE) : CS := fun ρ => match hEv c ρ with
  | .ok d => .nx (ρ.set i (.val d))
  | .exc x => .exc x
  | .bad => .bad
theorem asg_of {K : PySem.W.Frag} {i : Nat} {D : Ends} {σ : L2.St} {H : Hp} (h : tS K W (sAsg i c) D σ H) : tAsg (tE K W c) (gName i) D σ H := by
  obtain ⟨Z, ρ, r, o⟩ := h
  refine hEv_run r ?_
  unfold sAsg at o
  cases q : hEv c ρ with
  | ok d =>
    rw [q] at o
    exact fun v H' e' hv => o _ H' ((r.mono e').set hv).1 ((hid_mono e').trans ((r.mono e').set hv).2)
  | exc x => rw [q] at o; exact fun H' e' => o H' (hid_same.trans e')
  | bad => rw [q] at o; exact o
theorem sm_set {i : Nat} {x : Str} {pos' : Pos} (hN : X.N.Nodup) (hi : X.N[i]? = some x) (hx : Loc X.env.scope x) (he : Ex X W e c) (hs : swapsWith e (some (.Name x pos')) pos.line X.env = pure false := by rfl) (hf : X.fn x = true ∨ X.env.scope.names.lookup x = some .local := by first | exact .inl rfl | exact .inr rfl | assumption) :
    Sm X W (.Assign [.Name x pos'] e pos) (sAsg i c) := ⟨PS_weak (ps_set hN hi hx he.run hs hf) fun D σ H h => asg_of h⟩
theorem sm_setLc {i : Nat} {y : Str} {py : Pos} {elt tg iter : Expr} {ifs : List Expr} {scope : Scope} {own : List (Str × Nat)} {pos spos : Pos} {g : TG} {t : Tgt} {cs : Env → R (List D)} {cond ce : CE} {tt : TT} (hc : X.calm = true) (hN : X.N.Nodup) (hy : X.N[i]? = some y) (hyl : X.env.scope.names.lookup y = some .local)
    (hsw : swapsWith (.ListComp elt [⟨tg, iter, ifs, 0⟩] scope pos) (some (.Name y py)) spos.line X.env = pure true) (hi : Src X W tg iter cs) (ok : BlkOk X.N X.env.scope scope own)
    (hg : ∀ (s : Shared) (H : Hp) (C : Addr) (cl : List (Str × Addr)) (fp : List Addr), PG (X.blk s H scope (compEnvC scope cl C X.env) fp) tg g) (ht : ∀ (s : Shared) (H : Hp) (C : Addr) (cl : List (Str × Addr)) (fp : List Addr), PTs (X.blk s H scope (compEnvC scope cl C X.env) fp) ifs tt)
    (he : ∀ (s : Shared) (H : Hp) (C : Addr) (cl : List (Str × Addr)) (fp : List Addr), Ex (X.blk s H scope (compEnvC scope cl C X.env) fp) W0 elt ce) (htg : Tg X.K (own.map (·.2)) g t) (htt : ∀ σ H Q, tT X.K W0 cond σ H Q → tt σ H Q)
    (hs : ∀ x, foldedSetIterable iter X.env x = pure x := by intro _; rfl) :
    Sm X W (.Assign [.Name y py] (.ListComp elt [⟨tg, iter, ifs, 0⟩] scope pos) spos) (sAsg i (cLc cs (own.map (·.2)) t cond ce)) :=
  ⟨PS_weak (ps_setLc hc hN hy hyl hsw hi.run ok hg ht (fun s H C cl fp => (he s H C cl fp).run) hs) fun D σ H h => lc_of htg htt (asg_of h)⟩
/-- a, b = e (a pair) -/
def sAsg2 (i j : Nat) (c : CE) : CS := fun ρ => match hEv c ρ with
  | .ok (.tuple [a, b]) => .nx ((ρ.set i (.val a)).set j (.val b))
  | .exc x => .exc x
  | _ => .bad
theorem set2 {K : PySem.W.Frag} {Z : Addr → Prop} {H : Hp} {σ : L2.St} {ρ : SE} {i j : Nat} {v w : V} {a b : D} (r : RepS K Z H σ ρ) (h1 : Dp K (hid H (ZO Z σ ρ)) v a) (h2 : Dp K (hid H (ZO Z σ ρ)) w b) :
    RepS K Z H ((σ.set i (some v)).set j (some w)) ((ρ.set i (.val a)).set j (.val b)) ∧ Same (hid H (Own σ ρ)) (hid H (Own ((σ.set i (some v)).set j (some w)) ((ρ.set i (.val a)).set j (.val b)))) := by
  have s1 := r.set (i := i) h1
  have s2 := s1.1.set (i := j) (dp_same (fr_zo s1.2) h2)
  exact ⟨s2.1, s1.2.trans s2.2⟩
theorem pair_cases (d : D) : (∃ a b, d = .tuple [a, b]) ∨ ∀ a b, d ≠ .tuple [a, b] := by
  by_cases h : ∃ a b, d = .tuple [a, b]
  · exact .inl h
  · exact .inr fun a b e => h ⟨a, b, e⟩
theorem sm_set2 {i j : Nat} {tg : Expr} (he : Ex X W e c) (hg : PG X tg (gTup X.K 2 (gCons (gName i) (gCons (gName j) gNil)))) (hs : swapsWithSole [tg] e pos.line X.env = pure false := by rfl) (hw : swappedStores [tg] e X.env = pure none := by rfl)
    (h1 : (assignEach [tg] X.env).map (·.2) = [assign tg X.env] := by rfl) : Sm X W (.Assign [tg] e pos) (sAsg2 i j c) := ⟨PS_weak (ps_asg he.run hg hs hw h1) fun D σ H ⟨Z, ρ, r, o⟩ => by
  refine hEv_run r ?_
  unfold sAsg2 at o
  cases q : hEv c ρ with
  | ok d =>
    rw [q] at o
    rcases pair_cases d with ⟨a, b, rfl⟩ | hn
    · refine fun v H' e' hv => ?_
      cases hv with
      | tup t1 t2 =>
        cases t2 with
        | cons q1 t2 =>
          cases t2 with
          | cons q2 t3 =>
            cases t3
            exact ⟨_, _, rfl, sqt_same hid_same t1, rfl, _, _, rfl, _, _, rfl, rfl, o _ H' (set2 (r.mono e') q1 q2).1 ((hid_mono e').trans (set2 (r.mono e') q1 q2).2)⟩
    · split at o
      · rename_i e'; cases e'; exact (hn _ _ rfl).elim
      · rename_i e'; cases e'
      · exact o.elim
  | exc x => rw [q] at o; exact fun H' e' => o H' (hid_same.trans e')
  | bad => rw [q] at o; exact o⟩
/-- a, b = e1, e2 (both sides written) -/
def hEvA (c : Env → R (List D)) (ρ : SE) : R (List D) := match c (vE ρ) with
  | .ok d => .ok d
  | .exc x => .exc x
  | .bad => match c (fE ρ) with
    | .ok d => if lfAll d then .ok d else .bad
    | .exc x => .exc x
    | .bad => .bad
theorem hEvA_run {K : PySem.W.Frag} {Z : Addr → Prop} {H : Hp} {σ : L2.St} {ρ : SE} {c : Env → R (List D)} {Q : List V → Hp → Prop} (r : RepS K Z H σ ρ) (h : match hEvA c ρ with
      | .ok d => ∀ v H', Same H H' → DpAll K (hid H' (ZO Z σ ρ)) v d → Q v H'
      | .exc x => ∀ H', Same H H' → W x H'
      | .bad => False) : tA K W c σ H Q := by
  unfold hEvA at h
  cases hv : c (vE ρ) with
  | ok d =>
    rw [hv] at h
    refine ⟨_, vE ρ, r.domO, r.v, ?_⟩
    rw [hv]
    exact h
  | exc x =>
    rw [hv] at h
    refine ⟨_, vE ρ, r.domO, r.v, ?_⟩
    rw [hv]
    exact h
  | bad =>
    rw [hv] at h
    dsimp only at h
    refine ⟨Z, fE ρ, r.dom, r.f, ?_⟩
    cases hf : c (fE ρ) with
    | ok d =>
      rw [hf] at h
      dsimp only at h
      by_cases hl : lfAll d = true
      · rw [if_pos hl] at h
        exact fun v H' e hv => h v H' e (dpAll_hide (fun a z nz => by
          rcases z with z | z
          · exact (nz z).elim
          · obtain ⟨vs, q⟩ := r.ownL z
            exact ⟨vs, e _ _ q⟩) d v hv hl)
      · rw [if_neg hl] at h
        exact h.elim
    | exc x => rw [hf] at h; exact h
    | bad => rw [hf] at h; exact h
def sPar (i j : Nat) (c : Env → R (List D)) : CS := fun ρ => match hEvA c ρ with
  | .ok [a, b] => .nx ((ρ.set i (.val a)).set j (.val b))
  | .exc x => .exc x
  | _ => .bad
theorem sm_par {i j : Nat} {x y : Str} {a b : Expr} {ca : Env → R (List D)} {px py pt : Pos} {kt k2 pt2} (hc : X.calm = true) (hN : X.N.Nodup) (hi : X.N[i]? = some x) (hj : X.N[j]? = some y) (hij : i ≠ j)
    (hx : X.env.scope.names.lookup x = some .local) (hy : X.env.scope.names.lookup y = some .local) (ha : Ar X W [a, b] ca)
    (hw : swappedStores [.Tuple [.Name x px, .Name y py] kt pt] (.Tuple [a, b] k2 pt2) X.env = pure (some [x, y]))
    (hs : swapsWithSole [.Tuple [.Name x px, .Name y py] kt pt] (.Tuple [a, b] k2 pt2) pos.line X.env = pure false := by rfl) :
    Sm X W (.Assign [.Tuple [.Name x px, .Name y py] kt pt] (.Tuple [a, b] k2 pt2) pos) (sPar i j ca) := ⟨PS_weak (ps_par hc hN hi hj hij hx hy ha.run hw hs) fun D σ H ⟨Z, ρ, r, o⟩ => by
  refine hEvA_run r ?_
  unfold sPar at o
  cases q : hEvA ca ρ with
  | ok ds =>
    rw [q] at o
    match ds, o with
    | [], o => exact o.elim
    | [_], o => exact o.elim
    | [a, b], o =>
      refine fun v H' e' hv => ?_
      cases hv with
      | cons q1 t2 =>
        cases t2 with
        | cons q2 t3 =>
          cases t3
          exact ⟨_, _, rfl, o _ H' (set2 (r.mono e') q1 q2).1 ((hid_mono e').trans (set2 (r.mono e') q1 q2).2)⟩
    | _ :: _ :: _ :: _, o => exact o.elim
  | exc x => rw [q] at o; exact fun H' e' => o H' (hid_same.trans e')
  | bad => rw [q] at o; exact o⟩
/-- if -/
def sIf (t : CE) (a b : CS) : CS := fun ρ => match t (fE ρ) with
  | .ok (.bool true) => a ρ
  | .ok (.bool false) => b ρ
  | .exc x => .exc x
  | _ => .bad
theorem sm_if {ct : CE} {cnd : Expr} {sa sb : List Stmt} (ht : Ts X W cnd ct) (ha : Sms X W sa s1) (hb : Sms X W sb s2) : Sm X W (.If cnd sa sb pos) (sIf ct s1 s2) := ⟨PS_weak (ps_if ht.run ha.run hb.run) fun D σ H ⟨Z, ρ, r, o⟩ => by
  refine ⟨Z, fE ρ, r.dom, r.f, ?_⟩
  unfold sIf at o
  cases q : ct (fE ρ) with
  | ok d =>
    rw [q] at o
    rcases isBool d with ⟨b, rfl⟩ | hn
    · cases b with
      | true =>
        refine fun H' e' => ?_
        show (if true = true then tS X.K W s1 D σ H' else tS X.K W s2 D σ H')
        rw [if_pos rfl]
        exact ⟨Z, ρ, r.mono e', OutS.grow o e'⟩
      | false =>
        refine fun H' e' => ?_
        show (if false = true then tS X.K W s1 D σ H' else tS X.K W s2 D σ H')
        rw [if_neg Bool.false_ne_true]
        exact ⟨Z, ρ, r.mono e', OutS.grow o e'⟩
    · split at o
      · rename_i e'; cases e'; exact (hn _ rfl).elim
      · rename_i e'; cases e'; exact (hn _ rfl).elim
      · rename_i e'; cases e'
      · exact o.elim
  | exc x => rw [q] at o; exact fun H' e' => o H' (hid_same.trans e')
  | bad => rw [q] at o; exact o⟩

/-! ### loops -/
def whileL (t : CE) (body : CS) : Nat → CS
  | 0, _ => .bad
  | n + 1, ρ => match t (fE ρ) with
    | .ok (.bool true) => match body ρ with
      | .nx ρ' => whileL t body n ρ'
      | .ct ρ' => whileL t body n ρ'
      | .bk ρ' => .nx ρ'
      | r => r
    | .ok (.bool false) => .nx ρ
    | .exc x => .exc x
    | _ => .bad
theorem sm_while {n : Nat} {ct : CE} {cnd : Expr} {body : List Stmt} (hp : PassesOwn (model X.prog X.w) X.A X.env X.xe) (ht : Ts X W cnd ct) (hb : Sms X W body s1) : Sm X W (.While cnd body [] pos) (whileL ct s1 n) := ⟨PS_weak (ps_while hp ht.run hb.run) fun D σ H ⟨Z, ρ, r, o⟩ => by
  refine ⟨fun m σ H => ∃ ρ, RepS X.K Z H σ ρ ∧ OutS X.K W Z D σ ρ H (whileL ct s1 m ρ), ⟨n, ρ, r, o⟩, ?_⟩
  rintro m σ H ⟨ρ, r, o⟩
  cases m with
  | zero => exact o.elim
  | succ m =>
    unfold whileL at o
    refine ⟨Z, fE ρ, r.dom, r.f, ?_⟩
    cases q : ct (fE ρ) with
    | ok d =>
      rw [q] at o
      rcases isBool d with ⟨b, rfl⟩ | hn
      · cases b with
        | true =>
          refine fun H' e' => ?_
          dsimp only at o
          refine ⟨fun σ' H'' => ∃ ρ, RepS X.K Z H'' σ' ρ ∧ OutS X.K W Z D σ' ρ H'' (whileL ct s1 m ρ), fun σ' H'' h => ⟨m, Nat.lt_succ_self m, h⟩, Z, ρ, r.mono e', ?_⟩
          have o := OutS.grow o e'
          cases qb : s1 ρ with
          | nx ρ' => rw [qb] at o; exact fun σ' H'' r' e2 => ⟨ρ', r', OutS.move o e2⟩
          | ct ρ' => rw [qb] at o; exact fun σ' H'' r' e2 => ⟨ρ', r', OutS.move o e2⟩
          | bk ρ' => rw [qb] at o; exact o
          | _ => rw [qb] at o; exact o
        | false =>
          refine fun H' e' => ?_
          exact OutS.grow o e' σ H' (r.mono e') (Same.refl _)
      · split at o
        · rename_i e'; cases e'; exact (hn _ rfl).elim
        · rename_i e'; cases e'; exact (hn _ rfl).elim
        · rename_i e'; cases e'
        · exact o.elim
    | exc x => rw [q] at o; exact fun H' e' => o H' (hid_same.trans e')
    | bad => rw [q] at o; exact o⟩
abbrev TgtS := D → SE → Option SE
structure TgS (K : PySem.W.Frag) (g : TG) (t : TgtS) : Prop where
  run : ∀ (Z : Addr → Prop) (H : Hp) (v : V) (d : D) (σ : L2.St) (ρ ρ1 : SE) (Q : L2.St → Hp → Prop), RepS K Z H σ ρ → Dp K (hid H (ZO Z σ ρ)) v d → t d ρ = some ρ1 →
    (∀ σ1, RepS K Z H σ1 ρ1 → Same (hid H (Own σ ρ)) (hid H (Own σ1 ρ1)) → Q σ1 H) → g v σ H Q
def sName (i : Nat) : TgtS := fun d ρ => some (ρ.set i (.val d))
def sPair (i j : Nat) : TgtS := fun d ρ => match d with
  | .tuple [a, b] => some ((ρ.set i (.val a)).set j (.val b))
  | _ => none
theorem tgs_name {K : PySem.W.Frag} {i : Nat} : TgS K (gName i) (sName i) := ⟨fun Z H v d σ ρ ρ1 Q r hv ht k => by
  cases ht
  exact k _ (r.set hv).1 (r.set hv).2⟩
theorem tgs_pair {K : PySem.W.Frag} {i j : Nat} : TgS K (gTup K 2 (gCons (gName i) (gCons (gName j) gNil))) (sPair i j) := ⟨fun Z H v d σ ρ ρ1 Q r hv ht k => by
  unfold sPair at ht
  split at ht
  · cases ht
    cases hv with
    | tup h1 h2 =>
      cases h2 with
      | cons q1 t1 =>
        cases t1 with
        | cons q2 t2 =>
          cases t2
          exact ⟨_, _, rfl, sqt_same hid_same h1, rfl, _, _, rfl, _, _, rfl, rfl, k _ (set2 r q1 q2).1 (set2 r q1 q2).2⟩
  · cases ht⟩
def forL (t : TgtS) (body : CS) : List D → CS
  | [], ρ => .nx ρ
  | d :: ds, ρ => match t d ρ with
    | none => .bad
    | some ρ1 => match body ρ1 with
      | .nx ρ2 => forL t body ds ρ2
      | .ct ρ2 => forL t body ds ρ2
      | .bk ρ2 => .nx ρ2
      | r => r
def sFor (cs : Env → R (List D)) (t : TgtS) (body : CS) : CS := fun ρ => match cs (vE ρ) with
  | .ok ds => forL t body ds ρ
  | .exc x => .exc x
  | .bad => .bad
theorem sm_for {tg iter : Expr} {body : List Stmt} {cs : Env → R (List D)} {g : TG} {t : TgtS} (hp : PassesOwn (model X.prog X.w) X.A X.env X.xe) (hc : X.calm = true) (hi : Src X W tg iter cs) (hg : PG X tg g) (ht : TgS X.K g t) (hb : Sms X W body s1)
    (hs : ∀ x, foldedSetIterable iter X.env x = pure x := by intro _; rfl) : Sm X W (.For tg iter body [] pos) (sFor cs t s1) := ⟨PS_weak (ps_for hp hc hi.run hg hb.run hs) fun D σ H ⟨Z, ρ, r, o⟩ => by
  refine ⟨ZO Z σ ρ, vE ρ, r.domO, r.v, ?_⟩
  unfold sFor at o
  cases q : cs (vE ρ) with
  | exc x => rw [q] at o; exact fun H' e' => o H' (hid_same.trans e')
  | bad => rw [q] at o; exact o
  | ok ds =>
    rw [q] at o
    dsimp only at o ⊢
    intro J H1 G e1 so hG
    refine for_it (walk_of_src so) (fun i σ' H' => ∃ ρ', RepS X.K Z H' σ' ρ' ∧ G (hid H' (ZO Z σ' ρ')) ∧ OutS X.K W Z D σ' ρ' H' (forL t s1 (ds.drop i) ρ')) ⟨ρ, r.mono e1, hG, OutS.grow o e1⟩ ?_ ?_ ?_
    · rintro i σ' H' hi ⟨ρ', r', g', o'⟩
      exact so.mono _ _ hid_same g'
    · rintro i x σ2 H2 H3 hi ⟨ρ2, r2, g2, o2⟩ y
      obtain ⟨e3, d, hdi, hdx⟩ := so.yields i H2 x H3 _ hi r2.domO g2 y
      have hdr : ds.drop i = d :: ds.drop (i + 1) := by
        rw [List.drop_eq_getElem_cons hi]
        rw [List.getElem?_eq_getElem hi] at hdi
        rw [Option.some.inj hdi]
      rw [hdr] at o2
      unfold forL at o2
      have o2 := OutS.grow o2 e3
      cases ht1 : t d ρ2 with
      | none => rw [ht1] at o2; exact o2.elim
      | some ρ3 =>
        rw [ht1] at o2
        refine ht.run Z H3 x d σ2 ρ2 ρ3 _ (r2.mono e3) hdx ht1 fun σ3 r3 e4 => ⟨Z, ρ3, r3, ?_⟩
        dsimp only at o2
        have o3 := OutS.move o2 e4
        have g3 : G (hid H3 (ZO Z σ3 ρ3)) := so.mono _ _ (fr_zo ((hid_mono e3).trans e4)) g2
        cases qb : s1 ρ3 with
        | nx ρ' => rw [qb] at o3; exact fun σ' H'' r' e5 => ⟨ρ', r', so.mono _ _ (fr_zo e5) g3, OutS.move o3 e5⟩
        | ct ρ' => rw [qb] at o3; exact fun σ' H'' r' e5 => ⟨ρ', r', so.mono _ _ (fr_zo e5) g3, OutS.move o3 e5⟩
        | bk ρ' => rw [qb] at o3; exact o3
        | _ => rw [qb] at o3; exact o3
    · rintro σ2 H2 ⟨ρ2, r2, g2, o2⟩
      rw [List.drop_length] at o2
      exact o2 σ2 H2 r2 (Same.refl _)⟩
end
end PL

set_option Elab.async false
set_option linter.all false
set_option maxRecDepth 100000
set_option maxHeartbeats 4000000
/-! PL: lists of one's own that change; defs. -/
namespace PL
open PySem PySem.Spec PyProof.Rows L2

section
variable {K : PySem.W.Frag} {W : WX} {Z : Addr → Prop} {H : Hp} {σ : L2.St} {ρ : SE} {i : Nat}
theorem RepS.ownSet {ds ds' : List D} {a : Addr} {vs vs' : List V} (r : RepS K Z H σ ρ) (h1 : ρ[i]? = some (.own ds)) (h2 : σ[i]? = some (some (.ref a))) (h3 : H a = some (.lst vs)) (h4 : DpAll K (hid H (ZO Z σ ρ)) vs' ds') :
    RepS K Z (upd H a (.lst vs')) σ (ρ.set i (.own ds')) ∧ Same (hid H (Own σ ρ)) (hid (upd H a (.lst vs')) (Own σ (ρ.set i (.own ds')))) := by
  have ha : Own σ ρ a := ⟨i, ds, h1, h2⟩
  have nz : ¬ Z a := by
    obtain ⟨b, _, e1, e2, _⟩ := r.owns i ds h1
    rw [h2] at e1; cases e1; exact e2
  have hO : ∀ b, Own σ (ρ.set i (.own ds')) b → Own σ ρ b := fun b ⟨j, es, q1, q2⟩ => by
    rcases set_get q1 with ⟨rfl, hl, e⟩ | ⟨hne, e⟩
    · exact ⟨j, ds, h1, q2⟩
    · exact ⟨j, es, e, q2⟩
  have hS : Same (hid H (Own σ ρ)) (hid (upd H a (.lst vs')) (Own σ (ρ.set i (.own ds')))) := fun b o e => by
    obtain ⟨z, e⟩ := hid_some e
    refine hid_mk (fun z' => z (hO b z')) ?_
    rw [upd_ne (fun q => z (by rw [q]; exact ha))]
    exact e
  have hS' := fr_zo (Z := Z) hS
  refine ⟨⟨by rw [List.length_set]; exact r.len, fun b z q => ?_, fun j d' e => ?_, fun j es e => ?_, fun j k b es fs e1 e2 e3 e4 => ?_⟩, hS⟩
  · by_cases e : b = a
    · subst e; exact nz z
    · rw [upd_ne e] at q; exact r.dom b z q
  · rcases set_get e with ⟨rfl, hl, e2⟩ | ⟨hne, e2⟩
    · cases e2
    · obtain ⟨w, q1, q2⟩ := r.vals j d' e2
      exact ⟨w, q1, dp_same hS' q2⟩
  · rcases set_get e with ⟨rfl, hl, e2⟩ | ⟨hne, e2⟩
    · cases e2
      exact ⟨a, vs', h2, nz, upd_same, dpAll_same hS' h4⟩
    · obtain ⟨b, ws, q1, q2, q3, q4⟩ := r.owns j es e2
      refine ⟨b, ws, q1, q2, ?_, dpAll_same hS' q4⟩
      rw [upd_ne]
      · exact q3
      · intro z
        subst z
        exact hne (r.dist j i b es ds e2 h1 q1 h2)
  · have g : ∀ {j : Nat} {es : List D}, (ρ.set i (.own ds'))[j]? = some (.own es) → ∃ es' : List D, ρ[j]? = some (.own es') := fun {j es} e => by
      rcases set_get e with ⟨rfl, hl, e2⟩ | ⟨hne, e2⟩
      · exact ⟨ds, h1⟩
      · exact ⟨es, e2⟩
    obtain ⟨es', e1⟩ := g e1
    obtain ⟨fs', e2⟩ := g e2
    exact r.dist j k b es' fs' e1 e2 e3 e4
theorem RepS.ownNew {ds : List D} {p : Addr} {vs : List V} (r : RepS K Z H σ ρ) (hp : H p = none) (h4 : DpAll K (hid H (ZO Z σ ρ)) vs ds) :
    RepS K Z (upd H p (.lst vs)) (σ.set i (some (.ref p))) (ρ.set i (.own ds)) ∧ Same (hid H (Own σ ρ)) (hid (upd H p (.lst vs)) (Own (σ.set i (some (.ref p))) (ρ.set i (.own ds)))) := by
  have hO : ∀ b, Own (σ.set i (some (.ref p))) (ρ.set i (.own ds)) b → Own σ ρ b ∨ b = p := fun b ⟨j, es, q1, q2⟩ => by
    rcases set_get q1 with ⟨rfl, hl, e⟩ | ⟨hne, e⟩
    · rw [List.getElem?_set_self (Nat.lt_of_lt_of_le hl r.len)] at q2
      cases q2
      exact .inr rfl
    · rw [List.getElem?_set_ne (Ne.symm hne)] at q2
      exact .inl ⟨j, es, e, q2⟩
  have hS : Same (hid H (Own σ ρ)) (hid (upd H p (.lst vs)) (Own (σ.set i (some (.ref p))) (ρ.set i (.own ds)))) := fun b o e => by
    obtain ⟨z, e⟩ := hid_some e
    have hb : b ≠ p := fun q => by rw [q, hp] at e; cases e
    refine hid_mk (fun z' => (hO b z').elim z hb) ?_
    rw [upd_ne hb]
    exact e
  have hS' := fr_zo (Z := Z) hS
  refine ⟨⟨by rw [List.length_set, List.length_set]; exact r.len, r.dom.mono (same_new hp), fun j d' e => ?_, fun j es e => ?_, fun j k b es fs e1 e2 e3 e4 => ?_⟩, hS⟩
  · rcases set_get e with ⟨rfl, hl, e2⟩ | ⟨hne, e2⟩
    · cases e2
    · rw [List.getElem?_set_ne (Ne.symm hne)]
      obtain ⟨w, q1, q2⟩ := r.vals j d' e2
      exact ⟨w, q1, dp_same hS' q2⟩
  · rcases set_get e with ⟨rfl, hl, e2⟩ | ⟨hne, e2⟩
    · cases e2
      exact ⟨p, vs, List.getElem?_set_self (Nat.lt_of_lt_of_le hl r.len), r.dom.out hp, upd_same, dpAll_same hS' h4⟩
    · rw [List.getElem?_set_ne (Ne.symm hne)]
      obtain ⟨b, ws, q1, q2, q3, q4⟩ := r.owns j es e2
      exact ⟨b, ws, q1, q2, by rw [upd_ne (ne_of_none q3 hp)]; exact q3, dpAll_same hS' q4⟩
  · have g : ∀ {j : Nat} {es : List D}, (ρ.set i (.own ds))[j]? = some (.own es) → (σ.set i (some (.ref p)))[j]? = some (some (.ref b)) → (j = i ∧ b = p) ∨ (j ≠ i ∧ b ≠ p ∧ ρ[j]? = some (.own es) ∧ σ[j]? = some (some (.ref b))) := fun {j es} e e' => by
      rcases set_get e with ⟨rfl, hl, e2⟩ | ⟨hne, e2⟩
      · rw [List.getElem?_set_self (Nat.lt_of_lt_of_le hl r.len)] at e'
        cases e'
        exact .inl ⟨rfl, rfl⟩
      · rw [List.getElem?_set_ne (Ne.symm hne)] at e'
        refine .inr ⟨hne, fun z => ?_, e2, e'⟩
        obtain ⟨vs, q⟩ := r.ownL ⟨j, es, e2, e'⟩
        rw [z, hp] at q; cases q
    rcases g e1 e3 with ⟨rfl, rfl⟩ | ⟨h1, h2, h3, h4⟩
    · rcases g e2 e4 with ⟨rfl, _⟩ | ⟨_, h2, _⟩
      · rfl
      · exact (h2 rfl).elim
    · rcases g e2 e4 with ⟨rfl, rfl⟩ | ⟨k1, k2, k3, k4⟩
      · exact (h2 rfl).elim
      · exact r.dist j k b es fs h3 k3 h4 k4
end
section
variable {X : Cx} {W : WX} {e : Expr} {c : CE} {pos : Pos} {i : Nat} {x : Str}
def sNil (i : Nat) : CS := fun ρ => .nx (ρ.set i (.own []))
theorem sm_nil {pos' pl : Pos} (hN : X.N.Nodup) (hi : X.N[i]? = some x) (hx : Loc X.env.scope x) (hs : swapsWith (.List [] pl) (some (.Name x pos')) pos.line X.env = pure false := by rfl) (hf : X.fn x = true ∨ X.env.scope.names.lookup x = some .local := by first | exact .inl rfl | exact .inr rfl | assumption) :
    Sm X W (.Assign [.Name x pos'] (.List [] pl) pos) (sNil i) := ⟨PS_weak (ps_set hN hi hx (pe_lst pa_nil) hs hf) fun D σ H ⟨Z, ρ, r, o⟩ =>
  ⟨Nat.zero_le _, fun p hp => o _ _ (r.ownNew hp .nil).1 (r.ownNew hp .nil).2⟩⟩
/-- x = list(e) -/
def sCopy (i : Nat) (c : CE) : CS := fun ρ => match hEv c ρ with
  | .ok (.list ds) => .nx (ρ.set i (.own ds))
  | .ok (.tuple ds) => .nx (ρ.set i (.own ds))
  | .exc x => .exc x
  | _ => .bad
theorem sm_copy {pos' p cpos : Pos} (hN : X.N.Nodup) (hi : X.N[i]? = some x) (hx : Loc X.env.scope x) (hg : Gl X "list") (hm : X.mg "list" = none) (he : Ex X W e c) (hs : swapsWith (.Call (.Name "list" p) [e] [] cpos) (some (.Name x pos')) pos.line X.env = pure false := by rfl)
    (hst : starEach [e] X.env = (false, eval e X.env) :: starEach [] X.env := by rfl) (hpl : (backTo cpos (starEach [] X.env)).any (·.1) = false := by rfl) (hf : X.fn x = true ∨ X.env.scope.names.lookup x = some .local := by first | exact .inl rfl | exact .inr rfl | assumption) :
    Sm X W (.Assign [.Name x pos'] (.Call (.Name "list" p) [e] [] cpos) pos) (sCopy i c) :=
  ⟨PS_weak (ps_set hN hi hx (pe_callTy call_list_of hg hm (by decide +kernel) (pa_cons he.run pa_nil hst) (by decide) (by decide) hst hpl) hs hf) fun D σ H ⟨Z, ρ, r, o⟩ => by
    show tE X.K W c σ H _
    refine hEv_run r ?_
    unfold sCopy at o
    cases q : hEv c ρ with
    | ok d =>
      rw [q] at o
      cases d with
      | list ds =>
        refine fun v H' e' hv => ?_
        cases hv with
        | lst h1 h2 => exact ⟨_, _, rfl, .inl (sql_same hid_same h1), fun l hl => o _ _ ((r.mono e').ownNew hl h2).1 ((hid_mono e').trans ((r.mono e').ownNew hl h2).2)⟩
      | tuple ds =>
        refine fun v H' e' hv => ?_
        cases hv with
        | tup h1 h2 => exact ⟨_, _, rfl, .inr (sqt_same hid_same h1), fun l hl => o _ _ ((r.mono e').ownNew hl h2).1 ((hid_mono e').trans ((r.mono e').ownNew hl h2).2)⟩
      | _ => exact o.elim
    | exc x => rw [q] at o; exact fun H' e' => o H' (hid_same.trans e')
    | bad => rw [q] at o; exact o⟩
/-- x.append(e) -/
def sApp (i : Nat) (c : CE) : CS := fun ρ => match ρ[i]? with
  | some (.own ds) => (match hEv c ρ with
    | .ok d => if ds.length < sizeLine then .nx (ρ.set i (.own (ds ++ [d]))) else .bad
    | .exc x => .exc x
    | .bad => .bad)
  | _ => .bad
theorem own_cases (ρ : SE) (i : Nat) : (∃ ds, ρ[i]? = some (.own ds)) ∨ ∀ ds, ρ[i]? ≠ some (.own ds) := by
  by_cases h : ∃ ds, ρ[i]? = some (.own ds)
  · exact .inl h
  · exact .inr fun ds e => h ⟨ds, e⟩
theorem app_of {K : PySem.W.Frag} {D : Ends} {σ : L2.St} {H : Hp} (h : tS K W (sApp i c) D σ H) : tDrop (tBM K "list" rAppend (tVar i) (tCons (tE K W c) tNil)) D σ H := by
  obtain ⟨Z, ρ, r, o⟩ := h
  unfold sApp at o
  rcases own_cases ρ i with ⟨ds, hds⟩ | hn
  · rw [hds] at o
    dsimp only at o
    obtain ⟨a, vs, h1, h2, h3, h4⟩ := r.owns i ds hds
    refine ⟨_, h1, .inl ⟨rfl, vs, .inl (.inl h3)⟩, ?_⟩
    show tE K W c σ H _
    refine hEv_run r ?_
    cases q : hEv c ρ with
    | ok d =>
      rw [q] at o
      dsimp only at o
      by_cases hl : ds.length < sizeLine
      · rw [if_pos hl] at o
        refine fun v H' e' hv => ?_
        have s := (r.mono e').ownSet hds h1 (e' _ _ h3) (dpa_append (dpAll_same (hid_mono e') h4) (dpa_one hv))
        exact ⟨a, vs, v, rfl, rfl, e' _ _ h3, by rw [dpa_length h4]; exact hl, o _ _ s.1 ((hid_mono e').trans s.2)⟩
      · rw [if_neg hl] at o
        exact o.elim
    | exc x => rw [q] at o; exact fun H' e' => o H' (hid_same.trans e')
    | bad => rw [q] at o; exact o
  · split at o
    · rename_i ds hds
      exact (hn ds hds).elim
    · exact o.elim
theorem sm_app {a' p' cpos pos : Pos} (hb : PE X (.Call (.Attribute (.Name x p') "append" a') [e] [] cpos) (tBM X.K "list" rAppend (tVar i) (tCons (tE X.K W c) tNil))) (hs : swapsWith (.Call (.Attribute (.Name x p') "append" a') [e] [] cpos) none pos.line X.env = pure false := by rfl) :
    Sm X W (.Expr (.Call (.Attribute (.Name x p') "append" a') [e] [] cpos) pos) (sApp i c) := ⟨PS_weak (ps_expr hb hs) fun D σ H h => app_of h⟩
/-- x.pop() -/
def sPop (i : Nat) : CS := fun ρ => match ρ[i]? with
  | some (.own ds) => if 0 < ds.length then .nx (ρ.set i (.own ds.dropLast)) else .bad
  | _ => .bad
theorem dpa_dropLast {K : PySem.W.Frag} {H : Hp} {vs : List V} {ds : List D} (h : DpAll K H vs ds) : DpAll K H vs.dropLast ds.dropLast := by
  rw [List.dropLast_eq_take, List.dropLast_eq_take, dpa_length h]
  exact dpa_take _ h
theorem sm_pop {a' p' cpos pos : Pos} (hb : PE X (.Call (.Attribute (.Name x p') "pop" a') [] [] cpos) (tBM0 X.K "list" rPop (tVar i))) (hs : swapsWith (.Call (.Attribute (.Name x p') "pop" a') [] [] cpos) none pos.line X.env = pure false := by rfl) :
    Sm X W (.Expr (.Call (.Attribute (.Name x p') "pop" a') [] [] cpos) pos) (sPop i) := ⟨PS_weak (ps_expr hb hs) fun D σ H ⟨Z, ρ, r, o⟩ => by
  unfold sPop at o
  rcases own_cases ρ i with ⟨ds, hds⟩ | hn
  · rw [hds] at o
    dsimp only at o
    obtain ⟨a, vs, h1, h2, h3, h4⟩ := r.owns i ds hds
    by_cases hl : 0 < ds.length
    · rw [if_pos hl] at o
      have s := r.ownSet hds h1 h3 (dpa_dropLast h4)
      have hl' : vs.length - 1 < vs.length := by rw [dpa_length h4]; omega
      exact ⟨_, h1, .inl ⟨rfl, vs, .inl (.inl h3)⟩, a, vs, vs[vs.length - 1], rfl, rfl, h3, List.getElem?_eq_getElem hl', o _ _ s.1 s.2⟩
    · rw [if_neg hl] at o
      exact o.elim
  · split at o
    · rename_i ds hds
      exact (hn ds hds).elim
    · exact o.elim⟩
/-- x.pop(e) -/
def sPopAt (i : Nat) (c : CE) : CS := fun ρ => match ρ[i]? with
  | some (.own ds) => (match hEv c ρ with
    | .ok (.int k) => if 0 ≤ k ∧ k < ds.length ∧ k < 2 ^ 63 then .nx (ρ.set i (.own (ds.eraseIdx k.toNat))) else .bad
    | .exc x => .exc x
    | _ => .bad)
  | _ => .bad
theorem dpa_erase {K : PySem.W.Frag} {H : Hp} : ∀ {vs : List V} {ds : List D} (k : Nat), DpAll K H vs ds → DpAll K H (vs.eraseIdx k) (ds.eraseIdx k)
  | _, _, _, .nil => by simp; exact .nil
  | _, _, 0, .cons _ t => t
  | _, _, k + 1, .cons h t => .cons h (dpa_erase k t)
theorem sm_popAt {a' p' cpos pos : Pos} (hb : PE X (.Call (.Attribute (.Name x p') "pop" a') [e] [] cpos) (tBM X.K "list" rPopAt (tVar i) (tCons (tE X.K W c) tNil))) (hs : swapsWith (.Call (.Attribute (.Name x p') "pop" a') [e] [] cpos) none pos.line X.env = pure false := by rfl) :
    Sm X W (.Expr (.Call (.Attribute (.Name x p') "pop" a') [e] [] cpos) pos) (sPopAt i c) := ⟨PS_weak (ps_expr hb hs) fun D σ H ⟨Z, ρ, r, o⟩ => by
  unfold sPopAt at o
  rcases own_cases ρ i with ⟨ds, hds⟩ | hn
  · rw [hds] at o
    dsimp only at o
    obtain ⟨a, vs, h1, h2, h3, h4⟩ := r.owns i ds hds
    refine ⟨_, h1, .inl ⟨rfl, vs, .inl (.inl h3)⟩, ?_⟩
    show tE X.K W c σ H _
    refine hEv_run r ?_
    cases q : hEv c ρ with
    | ok d =>
      rw [q] at o
      cases d with
      | int k =>
        dsimp only at o
        by_cases hl : 0 ≤ k ∧ k < ds.length ∧ k < 2 ^ 63
        · rw [if_pos hl] at o
          refine fun v H' e' hv => ?_
          cases hv
          have s := (r.mono e').ownSet hds h1 (e' _ _ h3) (dpa_erase k.toNat (dpAll_same (hid_mono e') h4))
          have hl' : k.toNat < vs.length := by rw [dpa_length h4]; omega
          have hk : seqIndex? k vs.length = some k.toNat := by
            have := (ixN_seq (n := vs.length) (i := k) (j := k.toNat) (by unfold ixN; rw [if_pos hl.1, if_pos (by rw [dpa_length h4]; omega)])).1
            exact this
          exact ⟨a, vs, k, k.toNat, vs[k.toNat], rfl, rfl, e' _ _ h3, by omega, hl.2.2, hk, List.getElem?_eq_getElem hl', o _ _ s.1 ((hid_mono e').trans s.2)⟩
        · rw [if_neg hl] at o
          exact o.elim
      | _ => exact o.elim
    | exc x => rw [q] at o; exact fun H' e' => o H' (hid_same.trans e')
    | bad => rw [q] at o; exact o
  · split at o
    · rename_i ds hds
      exact (hn ds hds).elim
    · exact o.elim⟩
/-- an expression, its value dropped -/
def sDrop (c : CE) : CS := fun ρ => match c (fE ρ) with
  | .ok _ => .nx ρ
  | .exc x => .exc x
  | .bad => .bad
theorem sm_drop (he : Ex X W e c) (hs : swapsWith e none pos.line X.env = pure false := by rfl) : Sm X W (.Expr e pos) (sDrop c) := ⟨PS_weak (ps_expr he.run hs) fun D σ H ⟨Z, ρ, r, o⟩ => by
  refine fEv_run r ?_
  unfold sDrop at o
  cases q : c (fE ρ) with
  | ok d => rw [q] at o; exact fun v H' e' hv => o σ H' (r.mono e') (hid_mono e')
  | exc x => rw [q] at o; exact fun H' e' => o H' (hid_same.trans e')
  | bad => rw [q] at o; exact o⟩
end

/-! ### defs -/
def iniS (n : Nat) (ds : List D) : SE := ds.map .val ++ List.replicate (n - ds.length) .non
def runP (n : Nat) (body : CS) : Sem1 := fun ds => match body (iniS n ds) with
  | .rt d => .ok d
  | .nx _ => .ok .none
  | _ => .bad
def runX (n : Nat) (body : CS) : Sem1 := fun ds => match body (iniS n ds) with
  | .rt d => .ok d
  | .nx _ => .ok .none
  | .exc x => .exc x
  | _ => .bad
theorem rep_start {K : PySem.W.Frag} {Z : Addr → Prop} {H : Hp} {N : List Str} {vs : List V} {ds : List D} (hl : vs.length ≤ N.length) (hd : Dom H Z) (hv : DpAll K (hid H Z) vs ds) :
    RepS K Z H (L2.start N vs) (iniS N.length ds) ∧ ∀ a, ¬ Own (L2.start N vs) (iniS N.length ds) a := by
  have hlen := dpa_length hv
  have hget : ∀ (i : Nat) x, (iniS N.length ds)[i]? = some x → (∃ d, ds[i]? = some d ∧ x = .val d) ∨ x = .non := fun i x h => by
    unfold iniS at h
    rw [List.getElem?_append] at h
    split at h
    · rw [List.getElem?_map] at h
      cases e : ds[i]? with
      | none => rw [e] at h; cases h
      | some d => rw [e] at h; cases h; exact .inl ⟨d, rfl, rfl⟩
    · rw [List.getElem?_replicate] at h
      split at h
      · cases h; exact .inr rfl
      · cases h
  have hno : ∀ a, ¬ Own (L2.start N vs) (iniS N.length ds) a := fun a ⟨i, es, h1, h2⟩ => by
    rcases hget i _ h1 with ⟨d, _, e⟩ | e <;> cases e
  refine ⟨⟨?_, hd, fun i d h => ?_, fun i es h => ?_, fun i j a es fs h1 => ?_⟩, hno⟩
  · unfold iniS L2.start
    simp only [List.length_append, List.length_map, List.length_replicate]
    omega
  · rcases hget i _ h with ⟨d', e1, e2⟩ | e
    · cases e2
      obtain ⟨v, q1, q2⟩ := dpa_get hv e1
      refine ⟨v, ?_, dp_same (hid_less fun a z => z.elim id fun z => (hno a z).elim) q2⟩
      unfold L2.start
      rw [List.getElem?_append_left (by rw [List.length_map]; exact (List.getElem?_eq_some_iff.mp q1).1), List.getElem?_map, q1]
      rfl
    · cases e
  · rcases hget i _ h with ⟨d, _, e⟩ | e <;> cases e
  · rcases hget i _ h1 with ⟨d, _, e⟩ | e <;> cases e
section
variable {P : Program} {w : World} {K : PySem.W.Frag} {mg : Str → Option Value} {base : Heap}
theorem fn_pure {x qual : Str} {st : Stmt} {f : Addr} {fd : FuncData} {N ps : List Str} {k : Nat} {Cl : Nat → Addr} {body : CS} (F : Fun K x qual st f fd) (S : FnScope N ps (defScope st)) (hps : ps.length ≤ N.length)
    (hb : ∀ (cdv : Value) (A : Around) (outer : List PySem.Env) (s : Shared) (H : Hp) (E : XK), Room k (A.deeper (envOfC qual (defScope st) s.heap.objs.size f cdv)) → Sms (cxOf CX0 P w K mg base N qual (defScope st) f cdv A outer s H E).nox W0 (defBody st) body) :
    FnOk P w K mg base CX0 (k + 1) f fd ps (spF K Cl ps.length (runP N.length body)) := by
  refine F.ok S (fun vs H Q E h => h.1) fun cdv A outer s H vs Q E hr h => ?_
  obtain ⟨hl, Z, ds, hd, hv, ho⟩ := h
  refine ⟨_, (hb cdv A outer s H E hr).run, Z, iniS N.length ds, (rep_start (by omega) hd hv).1, ?_⟩
  have hno := (rep_start (N := N) (by omega) hd hv).2
  have hz : Same H (hid H (Own (L2.start N vs) (iniS N.length ds))) := fun b o e => hid_mk (hno b) e
  unfold runP at ho
  cases q : body (iniS N.length ds) with
  | nx ρ' =>
    rw [q] at ho
    exact fun σ' H' r' e => ho .non H' (hz.trans (e.trans hid_same)) .non
  | rt d =>
    rw [q] at ho
    exact fun v H' e hv' => ho v H' (hz.trans e) hv'
  | bk ρ' => rw [q] at ho; exact ho.elim
  | ct ρ' => rw [q] at ho; exact ho.elim
  | exc x => rw [q] at ho; exact ho.elim
  | bad => rw [q] at ho; exact ho.elim
end
end PL

set_option Elab.async false
set_option linter.all false
set_option maxRecDepth 100000
set_option maxHeartbeats 4000000
/-! PL: what operators and built-ins do to data. -/
namespace PL
open PySem PySem.Spec PyProof.Rows L2

section
variable {K : PySem.W.Frag} {W : WX} {H H' : Hp} {Z : Addr → Prop} {X : Cx} {pins : List (Addr × Obj)} {σ : L2.St} {s : Shared}
theorem reads_of (I : L2.Inv X pins σ H s) {d : D} {v : V} {u : Value} (h : Dp X.K (hid H Z) v d) (r : RelV v u) : ∃ as, Reads s.heap u d as := Dp.reads I d v u (dp_same hid_same h) r
theorem readsAll_of (I : L2.Inv X pins σ H s) {ds : List D} {vs : List V} {us : List Value} (h : DpAll X.K (hid H Z) vs ds) (r : Vals vs us) : ∃ as, ReadsAll s.heap us ds as := Dp.readsAll I ds vs us (dpAll_same hid_same h) r
theorem give {Q : VK} {d : D} {v : V} (o : OutE K W H Z (.ok d) Q) (hd : Dp K (hid H Z) v d) : Q v H := o v H (Same.refl _) hd
theorem giveT {Q : VK} {ds : List D} {vs : List V} (hd : Dom H Z) (o : OutE K W H Z (.ok (.tuple ds)) Q) (hv : DpAll K (hid H Z) vs ds) (p : Addr) (hp : H p = none) : Q (.ref p) (upd H p (.tup vs)) :=
  o _ _ (same_new hp) (.tup (.inl (.inl (hid_new hd hp))) (dpAll_same (hid_mono (same_new hp)) hv))
theorem giveL {Q : VK} {ds : List D} {vs : List V} (hd : Dom H Z) (o : OutE K W H Z (.ok (.list ds)) Q) (hv : DpAll K (hid H Z) vs ds) (p : Addr) (hp : H p = none) : Q (.ref p) (upd H p (.lst vs)) :=
  o _ _ (same_new hp) (.lst (.inl (.inl (hid_new hd hp))) (dpAll_same (hid_mono (same_new hp)) hv))
end

/-! ### arithmetic -/
def gAdd : D → D → R D
  | .int i, .int j => .ok (.int (i + j))
  | .str a, .str b => if a.length + b.length ≤ sizeLine then .ok (.str (a ++ b)) else .bad
  | .list a, .list b => if a.length + b.length ≤ sizeLine then .ok (.list (a ++ b)) else .bad
  | .tuple a, .tuple b => if a.length + b.length ≤ sizeLine then .ok (.tuple (a ++ b)) else .bad
  | _, _ => .bad
def gSub : D → D → R D
  | .int i, .int j => .ok (.int (i - j))
  | _, _ => .bad
def CMulB (i j : Int) : Bool := (decide (-(2 ^ 64) < i) && decide (i < 2 ^ 64)) || (decide (-(2 ^ 64) < j) && decide (j < 2 ^ 64))
def gMul : D → D → R D
  | .int i, .int j => if CMulB i j then .ok (.int (i * j)) else .bad
  | .tuple a, .int k => if a ≠ [] ∧ 2 ≤ k ∧ k ≤ 1000 ∧ a.length ≤ 1000 then .ok (.tuple (List.replicate k.toNat a).flatten) else .bad
  | _, _ => .bad
def gDiv : D → D → R D
  | .int i, .int j => if 0 < j ∧ j < 1073741824 then .ok (.int (i / j)) else .bad
  | _, _ => .bad
def gMod : D → D → R D
  | .int i, .int j => if 0 < j then .ok (.int (i % j)) else if j < 0 then .ok (.int (i.fmod j)) else .bad
  | _, _ => .bad
def gNeg : D → R D
  | .int i => .ok (.int (-i))
  | _ => .bad
section
variable {X : Cx} {W : WX}
theorem list_add_raw {prog : Program} {w : World} {A : Around} {E : Value → Shared → Prop} {s : Shared} {l b : Addr} {vs ws : List Value} {Q : Value → Shared → Prop} (hl : s.heap.IsList l vs.toArray) (hb : s.heap.IsList b ws.toArray) (hsz : vs.length + ws.length ≤ sizeLine)
    (h : Q (.ref s.heap.objs.size) { s with heap := s.heap.push { cls := .type "list", data := .seq (vs ++ ws).toArray } }) : wpAny (model prog w) A (binaryOp .Add (.ref l) (.ref b)) Q E s := by
  obtain ⟨⟨c1, e1, t1, k1⟩, o1, hc1, n1, hd1⟩ := id hl
  obtain ⟨⟨c2, e2, t2, k2⟩, o2, hc2, n2, hd2⟩ := id hb
  have hc1 : c1 = .type "list" := hc1
  have hc2 : c2 = .type "list" := hc2
  have hd1 : t1 = .seq vs.toArray n1 := hd1
  have hd2 : t2 = .seq ws.toArray n2 := hd2
  subst hc1 hc2 hd1 hd2
  refine concat_meets hl.typeIs hb.typeIs noFill_list_add seq_list_add PySem.F.slot_list_add PySem.F.entry_list_add (PySem.F.args_list_add_2 _ _)
    (list_addW l b vs.toArray ws.toArray n1 n2 e1 e2 k1 k2 (by simpa using hsz)) ⟨o1, o2, ?_⟩
  have ea : vs.toArray ++ ws.toArray = (vs ++ ws).toArray := by simp
  show Q _ _
  rw [ea]
  exact h
theorem o_add : OpR X (binaryOp .Add) (r2G X.K W gAdd) := by
  intro pins s σ H x y v u Q I rx ry h
  obtain ⟨Z, d, e, hd, hx, hy, o⟩ := h
  unfold gAdd at o
  split at o
  · cases hx; cases hy
    exact op_add pins s σ H _ _ v u Q I rx ry ⟨_, _, rfl, rfl, give o (.int _)⟩
  · cases hx; cases hy
    split at o
    · rename_i hs
      exact op_add_str pins s σ H _ _ v u Q I rx ry ⟨_, _, rfl, rfl, hs, give o (.str _)⟩
    · exact o.elim
  · cases hx with
    | lst h1 h2 =>
      cases hy with
      | lst h3 h4 =>
        split at o
        · rename_i hs
          cases rx; cases ry
          obtain ⟨its, rv, pl, hz⟩ := I.list (sql_same hid_same h1)
          obtain ⟨its2, rv2, pl2, hz2⟩ := I.list (sql_same hid_same h3)
          have l1 := rv.length
          have l2 := rv2.length
          have l3 := dpa_length h2
          have l4 := dpa_length h4
          refine list_add_raw pl.isList pl2.isList (by omega) ?_
          exact ⟨.ref _, _, I.lnew (t' := s.toks) (rv.append rv2) (by rw [List.length_append]; omega), rfl, giveL hd o (dpa_append h2 h4) _ I.fresh⟩
        · exact o.elim
  · cases hx with
    | tup h1 h2 =>
      cases hy with
      | tup h3 h4 =>
        split at o
        · rename_i hs
          have l3 := dpa_length h2
          have l4 := dpa_length h4
          refine op_catA pins s σ H _ _ v u Q I rx ry ⟨_, _, _, _, rfl, rfl, sqt_same hid_same h1, sqt_same hid_same h3, by omega, fun e => ?_, fun _ e => ?_, fun _ _ => giveT hd o (dpa_append h2 h4)⟩
          · subst e
            cases h2
            exact give o (.tup h3 h4)
          · subst e
            cases h4
            rw [List.append_nil] at o
            exact give o (.tup h1 h2)
        · exact o.elim
  · exact o.elim
theorem o_sub : OpR X (binaryOp .Sub) (r2G X.K W gSub) := by
  intro pins s σ H x y v u Q I rx ry h
  obtain ⟨Z, d, e, hd, hx, hy, o⟩ := h
  unfold gSub at o
  split at o
  · cases hx; cases hy
    exact op_sub pins s σ H _ _ v u Q I rx ry ⟨_, _, rfl, rfl, give o (.int _)⟩
  · exact o.elim
theorem o_mul : OpR X (binaryOp .Mult) (r2G X.K W gMul) := by
  intro pins s σ H x y v u Q I rx ry h
  obtain ⟨Z, d, e, hd, hx, hy, o⟩ := h
  unfold gMul at o
  split at o
  · cases hx; cases hy
    split at o
    · rename_i i j hc
      refine op_mul pins s σ H _ _ v u Q I rx ry ⟨_, _, rfl, rfl, ?_, give o (.int _)⟩
      unfold CMulB at hc
      rw [Bool.or_eq_true, Bool.and_eq_true, Bool.and_eq_true, decide_eq_true_eq, decide_eq_true_eq, decide_eq_true_eq, decide_eq_true_eq] at hc
      exact hc
    · exact o.elim
  · cases hx with
    | tup h1 h2 =>
      cases hy
      split at o
      · rename_i hc
        have l := dpa_length h2
        refine op_repT pins s σ H _ _ v u Q I rx ry ⟨_, _, _, rfl, rfl, sqt_same hid_same h1, fun z => ?_, hc.2.1, hc.2.2.1, by omega, giveT hd o ?_⟩
        · subst z
          cases h2
          exact hc.1 rfl
        · generalize Int.toNat _ = n
          induction n with
          | zero => exact .nil
          | succ n ih =>
            rw [List.replicate_succ, List.flatten_cons, List.replicate_succ, List.flatten_cons]
            exact dpa_append h2 ih
      · exact o.elim
  · exact o.elim
theorem o_div : OpR X (binaryOp .FloorDiv) (r2G X.K W gDiv) := by
  intro pins s σ H x y v u Q I rx ry h
  obtain ⟨Z, d, e, hd, hx, hy, o⟩ := h
  unfold gDiv at o
  split at o
  · cases hx; cases hy
    split at o
    · rename_i i j hc
      exact op_fdiv pins s σ H _ _ v u Q I rx ry ⟨_, _, rfl, rfl, hc, give o (.int _)⟩
    · exact o.elim
  · exact o.elim
theorem o_mod : OpR X (binaryOp .Mod) (r2G X.K W gMod) := by
  intro pins s σ H x y v u Q I rx ry h
  obtain ⟨Z, d, e, hd, hx, hy, o⟩ := h
  unfold gMod at o
  split at o
  · cases hx; cases hy
    split at o
    · rename_i i j hc
      exact op_mod pins s σ H _ _ v u Q I rx ry ⟨_, _, rfl, rfl, hc, give o (.int _)⟩
    · split at o
      · rename_i hc
        exact op_modN pins s σ H _ _ v u Q I rx ry ⟨_, _, rfl, rfl, by omega, give o (.int _)⟩
      · exact o.elim
  · exact o.elim
theorem o_neg : UnR X (unaryOp .USub) (r1G X.K W gNeg) := by
  intro pins s σ H x v Q I rx h
  obtain ⟨Z, d, hd, hx, o⟩ := h
  unfold gNeg at o
  split at o
  · cases hx
    exact un_neg pins s σ H _ v Q I rx ⟨_, rfl, give o (.int _)⟩
  · exact o.elim
end

/-! ### comparisons -/
def gI (f : Int → Int → Bool) : D → D → R D
  | .int i, .int j => .ok (.bool (f i j))
  | _, _ => .bad
def gLt : D → D → R D := gI fun i j => decide (i < j)
def gLe : D → D → R D := gI fun i j => decide (i ≤ j)
def gGt : D → D → R D := gI fun i j => decide (j < i)
def gGe : D → D → R D := gI fun i j => decide (j ≤ i)
def fitD (d : D) : Bool := d.plain && decide (d.depth ≤ 60)
def gEq : D → D → R D := fun d e => if fitD d && fitD e then .ok (.bool (PyData.eqv d e)) else .bad
def gNe : D → D → R D := fun d e => if fitD d && fitD e then .ok (.bool (!PyData.eqv d e)) else .bad
/-- x in xs -/
def gInB (neg : Bool) (d e : D) : R D := match e with
  | .list ds => if fitD d && fitD (.list ds) then .ok (.bool (neg ^^ ds.any fun z => PyData.eqv z d)) else .bad
  | .tuple ds => if fitD d && fitD (.tuple ds) then .ok (.bool (neg ^^ ds.any fun z => PyData.eqv z d)) else .bad
  | .str z => (match d with
    | .str a => (match a.cps.toList with
      | [c] => .ok (.bool (neg ^^ decide (c ∈ z.cps.toList)))
      | _ => .bad)
    | _ => .bad)
  | _ => .bad
def gIn : D → D → R D := gInB false
def gNotIn : D → D → R D := gInB true
def isNon : D → Bool
  | .none => true
  | _ => false
def gIsN : D → D → R D
  | d, .none => .ok (.bool (isNon d))
  | _, _ => .bad
section
variable {X : Cx} {W : WX}
theorem o_I {op : CmpOp} {f : Int → Int → Bool} (ho : OpR X (compareOp op) (rI0 fun i j => .bl (f i j))) : OpR X (compareOp op) (r2G X.K W (gI f)) := by
  intro pins s σ H x y v u Q I rx ry h
  obtain ⟨Z, d, e, hd, hx, hy, o⟩ := h
  unfold gI at o
  split at o
  · cases hx; cases hy
    exact ho pins s σ H _ _ v u Q I rx ry ⟨_, _, rfl, rfl, give o (.bl _)⟩
  · exact o.elim
theorem o_lt : OpR X (compareOp .Lt) (r2G X.K W gLt) := o_I op_lt
theorem o_le : OpR X (compareOp .LtE) (r2G X.K W gLe) := o_I op_le
theorem o_gt : OpR X (compareOp .Gt) (r2G X.K W gGt) := o_I op_gt
theorem o_ge : OpR X (compareOp .GtE) (r2G X.K W gGe) := o_I op_ge
theorem fitD_of {d : D} (h : fitD d = true) : d.plain = true ∧ d.depth ≤ 60 := by
  unfold fitD at h
  rw [Bool.and_eq_true, decide_eq_true_eq] at h
  exact h
theorem o_eq (hu : X.A.units + 64 < cLine) : OpR X (compareOp .Eq) (r2G X.K W gEq) := by
  intro pins s σ H x y v u Q I rx ry h
  obtain ⟨Z, d, e, hd, hx, hy, o⟩ := h
  unfold gEq at o
  split at o
  · rename_i hf
    rw [Bool.and_eq_true] at hf
    obtain ⟨f1, f2⟩ := fitD_of hf.1
    obtain ⟨f3, f4⟩ := fitD_of hf.2
    obtain ⟨as, r1⟩ := reads_of I hx rx
    obtain ⟨bs, r2⟩ := reads_of I hy ry
    exact SeqAt.eq_plain r1 r2 f1 f3 (by omega) ⟨.bl _, H, I, rfl, give o (.bl _)⟩
  · exact o.elim
theorem o_ne (hu : X.A.units + 64 < cLine) : OpR X (compareOp .NotEq) (r2G X.K W gNe) := by
  intro pins s σ H x y v u Q I rx ry h
  obtain ⟨Z, d, e, hd, hx, hy, o⟩ := h
  unfold gNe at o
  split at o
  · rename_i hf
    rw [Bool.and_eq_true] at hf
    obtain ⟨f1, f2⟩ := fitD_of hf.1
    obtain ⟨f3, f4⟩ := fitD_of hf.2
    obtain ⟨as, r1⟩ := reads_of I hx rx
    obtain ⟨bs, r2⟩ := reads_of I hy ry
    exact SeqAt.ne_plain r1 r2 f1 f3 (by omega) ⟨.bl _, H, I, rfl, give o (.bl _)⟩
  · exact o.elim
theorem fitL {ds : List D} (h : fitD (.list ds) = true) : PyData.plainAll ds = true ∧ PyData.depthAll ds ≤ 60 := by
  obtain ⟨h1, h2⟩ := fitD_of h
  rw [PyData.plain] at h1
  rw [PyData.depth] at h2
  exact ⟨h1, by omega⟩
theorem fitT {ds : List D} (h : fitD (.tuple ds) = true) : PyData.plainAll ds = true ∧ PyData.depthAll ds ≤ 60 := by
  obtain ⟨h1, h2⟩ := fitD_of h
  rw [PyData.plain] at h1
  rw [PyData.depth] at h2
  exact ⟨h1, by omega⟩
theorem one_sign {a : Str} {c : Nat} (h : a.cps.toList = [c]) : a = ⟨#[c]⟩ := by
  cases a with
  | mk cps =>
    have : cps = #[c] := by
      apply Array.toList_inj.mp
      exact h
    rw [this]
theorem o_in (hu : X.A.units + 64 < cLine) : OpR X (compareOp .In) (r2G X.K W gIn) := by
  intro pins s σ H x y v u Q I rx ry h
  obtain ⟨Z, d, e, hd, hx, hy, o⟩ := h
  unfold gIn gInB at o
  cases e with
  | list ds =>
    dsimp only at o
    split at o
    · rename_i hf
      rw [Bool.and_eq_true] at hf
      obtain ⟨f1, f2⟩ := fitD_of hf.1
      obtain ⟨f3, f4⟩ := fitL hf.2
      obtain ⟨as, r1⟩ := reads_of I hx rx
      obtain ⟨bs, r2⟩ := reads_of I hy ry
      exact SeqAt.in_list_data r2 r1 f3 f1 (by omega) ⟨.bl _, H, I, by rw [Bool.false_xor]; rfl, give o (.bl _)⟩
    · exact o.elim
  | tuple ds =>
    dsimp only at o
    split at o
    · rename_i hf
      rw [Bool.and_eq_true] at hf
      obtain ⟨f1, f2⟩ := fitD_of hf.1
      obtain ⟨f3, f4⟩ := fitT hf.2
      obtain ⟨as, r1⟩ := reads_of I hx rx
      obtain ⟨bs, r2⟩ := reads_of I hy ry
      exact SeqAt.in_tuple_data r2 r1 f3 f1 (by omega) ⟨.bl _, H, I, by rw [Bool.false_xor]; rfl, give o (.bl _)⟩
    · exact o.elim
  | str z =>
    cases d with
    | str a =>
      dsimp only at o
      cases hq : a.cps.toList with
      | nil => rw [hq] at o; exact o.elim
      | cons c r =>
        rw [hq] at o
        cases r with
        | nil =>
          have hq := one_sign hq
          subst hq
          cases hx; cases hy
          refine op_in_sign pins s σ H _ _ v u Q I rx ry ⟨_, _, rfl, rfl, ?_⟩
          have o := give o (.bl _)
          rw [Bool.false_xor] at o
          exact o
        | cons c2 r => exact o.elim
    | _ => exact o.elim
  | _ => exact o.elim
theorem o_notIn (hu : X.A.units + 64 < cLine) : OpR X (compareOp .NotIn) (r2G X.K W gNotIn) := by
  intro pins s σ H x y v u Q I rx ry h
  obtain ⟨Z, d, e, hd, hx, hy, o⟩ := h
  unfold gNotIn gInB at o
  cases e with
  | list ds =>
    dsimp only at o
    split at o
    · rename_i hf
      rw [Bool.and_eq_true] at hf
      obtain ⟨f1, f2⟩ := fitD_of hf.1
      obtain ⟨f3, f4⟩ := fitL hf.2
      obtain ⟨as, r1⟩ := reads_of I hx rx
      obtain ⟨bs, r2⟩ := reads_of I hy ry
      exact SeqAt.notIn_list_data r2 r1 f3 f1 (by omega) ⟨.bl _, H, I, by rw [Bool.true_xor]; rfl, give o (.bl _)⟩
    · exact o.elim
  | tuple ds =>
    dsimp only at o
    split at o
    · rename_i hf
      rw [Bool.and_eq_true] at hf
      obtain ⟨f1, f2⟩ := fitD_of hf.1
      obtain ⟨f3, f4⟩ := fitT hf.2
      obtain ⟨as, r1⟩ := reads_of I hx rx
      obtain ⟨bs, r2⟩ := reads_of I hy ry
      exact SeqAt.notIn_tuple_data r2 r1 f3 f1 (by omega) ⟨.bl _, H, I, by rw [Bool.true_xor]; rfl, give o (.bl _)⟩
    · exact o.elim
  | str z =>
    cases d with
    | str a =>
      dsimp only at o
      cases hq : a.cps.toList with
      | nil => rw [hq] at o; exact o.elim
      | cons c r =>
        rw [hq] at o
        cases r with
        | nil =>
          have hq := one_sign hq
          subst hq
          cases hx; cases hy
          refine op_notIn_sign pins s σ H _ _ v u Q I rx ry ⟨_, _, rfl, rfl, ?_⟩
          have o := give o (.bl _)
          rw [Bool.true_xor] at o
          exact o
        | cons c2 r => exact o.elim
    | _ => exact o.elim
  | _ => exact o.elim
theorem o_isN : OpR X (compareOp .Is) (r2G X.K W gIsN) := by
  intro pins s σ H x y v u Q I rx ry h
  obtain ⟨Z, d, e, hd, hx, hy, o⟩ := h
  unfold gIsN at o
  split at o
  · cases hy
    refine op_isN pins s σ H _ _ v u Q I rx ry ⟨rfl, ?_⟩
    have key : decide (x = .non) = isNon d := by
      cases hx <;> first | rfl | exact decide_eq_false (by intro z; cases z)
    rw [key]
    exact give o (.bl _)
  · exact o.elim
end

/-! ### subscripts, slices -/
def gIx : D → D → R D
  | .list ds, .int i => R.ofOpt (atI ds i)
  | .tuple ds, .int i => R.ofOpt (atI ds i)
  | .str z, .int i => if z.length ≤ sizeLine then (match atI z.cps.toList i with
    | some c => .ok (.str ⟨#[c]⟩)
    | none => .bad) else .bad
  | _, _ => .bad
theorem atI_dp {K : PySem.W.Frag} {H : Hp} {xs : List V} {ds : List D} {i : Int} {d : D} (h : DpAll K H xs ds) (e : atI ds i = some d) : ∃ v, atI xs i = some v ∧ Dp K H v d := by
  unfold atI at e ⊢
  rw [dpa_length h]
  cases q : ixN ds.length i with
  | none => rw [q] at e; cases e
  | some j =>
    rw [q] at e
    exact dpa_get h e
section
variable {X : Cx} {W : WX}
theorem x_ix : IxR X (r2G X.K W gIx) := by
  intro value slice pins s σ H x y v u Q I rx ry h hs
  obtain ⟨Z, d, e, hd, hx, hy, o⟩ := h
  unfold gIx at o
  split at o
  · rename_i ds i
    cases hy
    cases q : atI ds i with
    | none => rw [q] at o; exact o.elim
    | some d =>
      rw [q] at o
      cases hx with
      | lst h1 h2 =>
        obtain ⟨w, e1, e2⟩ := atI_dp h2 q
        exact ix_list value slice pins s σ H _ _ v u Q I rx ry ⟨_, _, _, w, rfl, rfl, sql_same hid_same h1, e1, give o e2⟩ hs
  · rename_i ds i
    cases hy
    cases q : atI ds i with
    | none => rw [q] at o; exact o.elim
    | some d =>
      rw [q] at o
      cases hx with
      | tup h1 h2 =>
        obtain ⟨w, e1, e2⟩ := atI_dp h2 q
        exact ix_tup value slice pins s σ H _ _ v u Q I rx ry ⟨_, _, _, w, rfl, rfl, sqt_same hid_same h1, e1, give o e2⟩ hs
  · rename_i z i
    cases hy
    cases hx
    split at o
    · rename_i hz
      cases q : atI z.cps.toList i with
      | none => rw [q] at o; exact o.elim
      | some c =>
        rw [q] at o
        exact ix_str value slice pins s σ H _ _ v u Q I rx ry ⟨_, _, c, rfl, rfl, hz, q, give o (.str _)⟩ hs
    · exact o.elim
  · exact o.elim
end
def cutD (ds : List D) (lo hi : Option Int) : List D := (ds.drop (HT.sIx ds.length 0 lo)).take (HT.sIx ds.length ds.length hi - HT.sIx ds.length 0 lo)
theorem cut_dp {K : PySem.W.Frag} {H : Hp} {xs : List V} {ds : List D} {lo hi : Option Int} (h : DpAll K H xs ds) : DpAll K H (cutV xs lo hi) (cutD ds lo hi) := by
  unfold cutV cutD
  rw [dpa_length h]
  exact dpa_take _ (dpa_drop _ h)
def gSl : D → Option Int → Option Int → R D
  | .list ds, lo, hi => .ok (.list (cutD ds lo hi))
  | .tuple ds, lo, hi => .ok (.tuple (cutD ds lo hi))
  | .str z, lo, hi => if z.length ≤ sizeLine then .ok (.str (cutS z lo hi)) else .bad
  | _, _, _ => .bad
abbrev CO := Env → R (Option Int)
def oNone : CO := fun _ => .ok none
def oSome (c : CE) : CO := fun ρ => (c ρ).bind fun d => match d with
  | .int i => .ok (some i)
  | _ => .bad
def tOI (K : PySem.W.Frag) (W : WX) (c : CO) : TO := fun σ H Q => ∃ Z ρ, Dom H Z ∧ RepE K (hid H Z) σ ρ ∧ match c ρ with
  | .ok o => ∀ H', Same H H' → Q o H'
  | .exc x => ∀ H', Same H H' → W x H'
  | .bad => False
structure Op (X : Cx) (W : WX) (e : Option Expr) (c : CO) : Prop where
  run : PO X e (tOI X.K W c)
theorem PO_weak {X : Cx} {e : Option Expr} {t t' : TO} (h : PO X e t) (hw : ∀ σ H Q, t' σ H Q → t σ H Q) : PO X e t' := ⟨fun pins s σ H Q I q => h.run pins s σ H Q I (hw σ H Q q)⟩
section
variable {X : Cx} {W : WX} {e : Expr} {c : CE} {pos p2 : Pos} {lo hi : Option Expr} {cl ch : CO}
theorem op_no : Op X W none oNone := ⟨PO_weak po_none fun σ H Q ⟨Z, ρ, hd, hr, ho⟩ => ho H (Same.refl _)⟩
theorem op_yes (h : Ex X W e c) : Op X W (some e) (oSome c) := ⟨PO_weak (po_some h.run) fun σ H Q ⟨Z, ρ, hd, hr, ho⟩ => by
  refine ⟨Z, ρ, hd, hr, ?_⟩
  unfold oSome at ho
  cases q : c ρ with
  | ok d =>
    rw [q, R.bind_ok] at ho
    cases d with
    | int i =>
      refine fun v H' e' hv => ?_
      cases hv
      exact ⟨i, rfl, ho H' e'⟩
    | _ => exact ho.elim
  | exc x => rw [q] at ho; exact ho
  | bad => rw [q] at ho; exact ho⟩
def cSl (c : CE) (cl ch : CO) : CE := fun ρ => (c ρ).bind fun d => (cl ρ).bind fun l => (ch ρ).bind fun h => gSl d l h
theorem ex_slice (he : Ex X W e c) (hl : Op X W lo cl) (hh : Op X W hi ch) : Ex X W (.Subscript e (.Slice lo hi none p2) pos) (cSl c cl ch) := by
  have key : ∀ (Z : Addr → Prop) (ρ : Env), PE X (.Subscript e (.Slice lo hi none p2) pos) (fun σ H Q => Dom H Z ∧ RepE X.K (hid H Z) σ ρ ∧ OutE X.K W H Z (cSl c cl ch ρ) Q) := fun Z ρ => by
    have sl : ∀ (r : V → Option Int → Option Int → Hp → VK → Prop), SlR X r → (∀ d v l h H Q, Dom H Z → Dp X.K (hid H Z) v d → OutE X.K W H Z (gSl d l h) Q → c ρ = .ok d → r v l h H Q) →
        PE X (.Subscript e (.Slice lo hi none p2) pos) (fun σ H Q => Dom H Z ∧ RepE X.K (hid H Z) σ ρ ∧ OutE X.K W H Z (cSl c cl ch ρ) Q) := fun r hr hx =>
      PE_weak (pe_slice hr he.run hl.run hh.run) fun σ H Q ⟨hd, hre, ho⟩ => by
        unfold cSl at ho
        refine ⟨Z, ρ, hd, hre, ?_⟩
        cases qc : c ρ with
        | exc x => rw [qc] at ho; exact ho
        | bad => rw [qc] at ho; exact ho
        | ok d =>
          rw [qc, R.bind_ok] at ho
          refine fun v H1 e1 hv => ⟨Z, ρ, hd.mono e1, hre.mono (hid_mono e1), ?_⟩
          have ho := OutE.mono e1 ho
          cases ql : cl ρ with
          | exc x => rw [ql] at ho; exact ho
          | bad => rw [ql] at ho; exact ho
          | ok l =>
            rw [ql, R.bind_ok] at ho
            refine fun H2 e2 => ⟨Z, ρ, (hd.mono e1).mono e2, (hre.mono (hid_mono e1)).mono (hid_mono e2), ?_⟩
            have ho := OutE.mono e2 ho
            cases qh : ch ρ with
            | exc x => rw [qh] at ho; exact ho
            | bad => rw [qh] at ho; exact ho
            | ok h =>
              rw [qh, R.bind_ok] at ho
              exact fun H3 e3 => hx d v l h H3 Q (((hd.mono e1).mono e2).mono e3) (dp_same (hid_mono (e2.trans e3)) hv) (OutE.mono e3 ho) qc
    cases qc : c ρ with
    | ok d =>
      cases d with
      | list ds =>
        refine sl _ sl_list fun d v l h H Q hd hv ho q => ?_
        rw [qc] at q
        cases q
        cases hv with
        | lst h1 h2 => exact ⟨_, _, rfl, sql_same hid_same h1, giveL hd ho (cut_dp h2)⟩
      | tuple ds =>
        refine sl _ sl_tupA fun d v l h H Q hd hv ho q => ?_
        rw [qc] at q
        cases q
        cases hv with
        | tup h1 h2 =>
          refine ⟨_, _, rfl, sqt_same hid_same h1, fun e0 => ?_, fun _ => giveT hd ho (cut_dp h2)⟩
          have hc := cut_dp (lo := l) (hi := h) h2
          have e1 : ∀ {α : Type} (xs : List α), xs.length = ds.length → (xs.drop (HT.sIx ds.length 0 l)).take (HT.sIx ds.length ds.length h - HT.sIx ds.length 0 l) = xs := fun {α} xs hx => by
            have l2 := dpa_length h2
            rw [l2] at e0
            rw [e0.1, e0.2, List.drop_zero, Nat.sub_zero, ← hx, List.take_length]
          have e2 : cutD ds l h = ds := e1 ds rfl
          have ho : OutE X.K W H Z (.ok (.tuple (cutD ds l h))) Q := ho
          rw [e2] at ho
          exact give ho (.tup h1 h2)
      | str z =>
        refine sl _ sl_str fun d v l h H Q hd hv ho q => ?_
        rw [qc] at q
        cases q
        cases hv
        have ho : OutE X.K W H Z (if z.length ≤ sizeLine then .ok (.str (cutS z l h)) else .bad) Q := ho
        split at ho
        · rename_i hz
          exact ⟨z, rfl, hz, give ho (.str _)⟩
        · exact ho.elim
      | _ =>
        refine sl _ sl_list fun d v l h H Q hd hv ho q => ?_
        rw [qc] at q
        cases q
        exact ho.elim
    | _ =>
      refine sl _ sl_list fun d v l h H Q hd hv ho q => ?_
      rw [qc] at q
      cases q
  exact ⟨⟨fun pins s σ H Q I ⟨Z, ρ, h⟩ => (key Z ρ).run pins s σ H Q I h⟩⟩
end
end PL

set_option Elab.async false
set_option linter.all false
set_option maxRecDepth 100000
set_option maxHeartbeats 4000000
/-! PL: calls of built-ins; enumerate. -/
namespace PL
open PySem PySem.Spec PyProof.Rows L2

/-! ### typed data -/
abbrev Pt := Int × Int
def pt (p : Pt) : D := .tuple [.int p.1, .int p.2]
def asInts : List D → Option (List Int)
  | [] => some []
  | .int i :: r => (asInts r).map (i :: ·)
  | _ :: _ => none
def asPts : List D → Option (List Pt)
  | [] => some []
  | .tuple [.int x, .int y] :: r => (asPts r).map ((x, y) :: ·)
  | _ :: _ => none
def asBls : List D → Option (List Bool)
  | [] => some []
  | .bool b :: r => (asBls r).map (b :: ·)
  | _ :: _ => none
theorem asInts_of : ∀ {ds : List D} {ns : List Int}, asInts ds = some ns → ds = ns.map .int
  | [], ns, h => by cases h; rfl
  | .int i :: r, ns, h => by
    unfold asInts at h
    cases q : asInts r with
    | none => rw [q] at h; cases h
    | some ms => rw [q] at h; cases h; rw [List.map_cons, asInts_of q]
  | .none :: _, _, h => by cases h
  | .bool _ :: _, _, h => by cases h
  | .str _ :: _, _, h => by cases h
  | .list _ :: _, _, h => by cases h
  | .tuple _ :: _, _, h => by cases h
  | .dict _ :: _, _, h => by cases h
theorem asInts_map : ∀ ns : List Int, asInts (ns.map PyData.int) = some ns
  | [] => rfl
  | n :: ns => by rw [List.map_cons, asInts, asInts_map ns]; rfl
theorem asPts_of : ∀ {ds : List D} {ps : List Pt}, asPts ds = some ps → ds = ps.map pt := by
  intro ds
  induction ds with
  | nil => intro ps h; cases h; rfl
  | cons d r ih =>
    intro ps h
    unfold asPts at h
    split at h
    · rename_i z; cases z
    · rename_i e
      cases e
      cases q : asPts r with
      | none => rw [q] at h; cases h
      | some ms => rw [q] at h; cases h; rw [List.map_cons, ih q]; rfl
    · cases h
theorem asPts_map : ∀ ps : List Pt, asPts (ps.map pt) = some ps
  | [] => rfl
  | p :: ps => by rw [List.map_cons, pt, asPts, asPts_map ps]; rfl
theorem asInts_pts : ∀ (p : Pt) (ps : List Pt), asInts ((p :: ps).map pt) = none := fun p ps => rfl
theorem asBls_of : ∀ {ds : List D} {ns : List Bool}, asBls ds = some ns → ds = ns.map .bool := by
  intro ds
  induction ds with
  | nil => intro ps h; cases h; rfl
  | cons d r ih =>
    intro ps h
    unfold asBls at h
    split at h
    · rename_i z; cases z
    · rename_i e
      cases e
      cases q : asBls r with
      | none => rw [q] at h; cases h
      | some ms => rw [q] at h; cases h; rw [List.map_cons, ih q]
    · cases h
theorem asBls_map : ∀ ns : List Bool, asBls (ns.map PyData.bool) = some ns
  | [] => rfl
  | n :: ns => by rw [List.map_cons, asBls, asBls_map ns]; rfl
def ltP (p q : Pt) : Bool := decide (p.1 < q.1 ∨ (p.1 = q.1 ∧ p.2 < q.2))
def minI (x : Int) (xs : List Int) : Int := xs.foldl (fun a y => if y < a then y else a) x
def maxI (x : Int) (xs : List Int) : Int := xs.foldl (fun a y => if a < y then y else a) x
def minP (x : Pt) (xs : List Pt) : Pt := xs.foldl (fun a y => if ltP y a = true then y else a) x
def maxP (x : Pt) (xs : List Pt) : Pt := xs.foldl (fun a y => if ltP a y = true then y else a) x
theorem minD_int (x : Int) (xs : List Int) : PySem.W.minD (.int x) (xs.map .int) = .int (minI x xs) := by
  unfold PySem.W.minD minI
  induction xs generalizing x with
  | nil => rfl
  | cons y ys ih =>
    rw [List.map_cons, List.foldl_cons, List.foldl_cons, PySem.W.dataLt_int]
    by_cases h : y < x
    · rw [if_pos (decide_eq_true h), if_pos h]; exact ih y
    · rw [if_neg (by rw [decide_eq_false h]; exact Bool.false_ne_true), if_neg h]; exact ih x
theorem maxD_int (x : Int) (xs : List Int) : PySem.W.maxD (.int x) (xs.map .int) = .int (maxI x xs) := by
  unfold PySem.W.maxD maxI
  induction xs generalizing x with
  | nil => rfl
  | cons y ys ih =>
    rw [List.map_cons, List.foldl_cons, List.foldl_cons, PySem.W.dataLt_int]
    by_cases h : x < y
    · rw [if_pos (decide_eq_true h), if_pos h]; exact ih y
    · rw [if_neg (by rw [decide_eq_false h]; exact Bool.false_ne_true), if_neg h]; exact ih x
theorem dataLt_pt (p q : Pt) : PySem.W.dataLt (pt p) (pt q) = ltP p q := PySem.W.dataLt_ii _ _ _ _
theorem minD_pt (x : Pt) (xs : List Pt) : PySem.W.minD (pt x) (xs.map pt) = pt (minP x xs) := by
  unfold PySem.W.minD minP
  induction xs generalizing x with
  | nil => rfl
  | cons y ys ih =>
    rw [List.map_cons, List.foldl_cons, List.foldl_cons, dataLt_pt]
    by_cases h : ltP y x = true
    · rw [if_pos h, if_pos h]; exact ih y
    · rw [if_neg h, if_neg h]; exact ih x
theorem maxD_pt (x : Pt) (xs : List Pt) : PySem.W.maxD (pt x) (xs.map pt) = pt (maxP x xs) := by
  unfold PySem.W.maxD maxP
  induction xs generalizing x with
  | nil => rfl
  | cons y ys ih =>
    rw [List.map_cons, List.foldl_cons, List.foldl_cons, dataLt_pt]
    by_cases h : ltP x y = true
    · rw [if_pos h, if_pos h]; exact ih y
    · rw [if_neg h, if_neg h]; exact ih x
theorem alike_int (xs : List Int) : PySem.W.AlikeAll (xs.map .int) := by
  refine ⟨fun x hx y hy => ?_, fun x hx => ?_⟩
  · obtain ⟨i, _, rfl⟩ := List.mem_map.mp hx
    obtain ⟨j, _, rfl⟩ := List.mem_map.mp hy
    rw [PySem.W.alike.eq_def]
  · obtain ⟨i, _, rfl⟩ := List.mem_map.mp hx
    intro z; cases z
theorem alike_pt2 (p q : Pt) : PySem.W.alike (pt p) (pt q) = true := by
  unfold pt
  simp [PySem.W.alike, PySem.W.alikeAll]
theorem alike_pts (xs : List Pt) : PySem.W.AlikeAll (xs.map pt) := by
  refine ⟨fun x hx y hy => ?_, fun x hx => ?_⟩
  · obtain ⟨i, _, rfl⟩ := List.mem_map.mp hx
    obtain ⟨j, _, rfl⟩ := List.mem_map.mp hy
    exact alike_pt2 i j
  · obtain ⟨i, _, rfl⟩ := List.mem_map.mp hx
    intro z; cases z
theorem plain_pt (p : Pt) : (pt p).plain = true := by unfold pt; simp [PyData.plain, PyData.plainAll]
theorem depth_pt (p : Pt) : (pt p).depth = 1 := by unfold pt; simp [PyData.depth, PyData.depthAll]
theorem plain_pts : ∀ ps : List Pt, PyData.plainAll (ps.map pt) = true
  | [] => rfl
  | p :: ps => by rw [List.map_cons, PyData.plainAll, plain_pt, plain_pts ps]; rfl
theorem depth_pts : ∀ ps : List Pt, PyData.depthAll (ps.map pt) ≤ 1
  | [] => Nat.zero_le _
  | p :: ps => by rw [List.map_cons, PyData.depthAll, depth_pt]; exact Nat.max_le.mpr ⟨Nat.le_refl _, depth_pts ps⟩
theorem plain_ints : ∀ ps : List Int, PyData.plainAll (ps.map .int) = true
  | [] => rfl
  | p :: ps => by rw [List.map_cons, PyData.plainAll, PyData.plain, plain_ints ps]; rfl
theorem depth_ints : ∀ ps : List Int, PyData.depthAll (ps.map .int) ≤ 1
  | [] => Nat.zero_le _
  | p :: ps => by rw [List.map_cons, PyData.depthAll, PyData.depth]; exact Nat.max_le.mpr ⟨Nat.zero_le _, depth_ints ps⟩

/-! ### what built-ins answer -/
def seqD : D → Option (List D)
  | .list ds => some ds
  | .tuple ds => some ds
  | _ => none
def gLen : Sem1
  | [.list ds] => .ok (.int ds.length)
  | [.tuple ds] => .ok (.int ds.length)
  | [.str z] => if z.length ≤ sizeLine then .ok (.int z.length) else .bad
  | _ => .bad
def gAbs : Sem1
  | [.int i] => .ok (.int (if i < 0 then -i else i))
  | _ => .bad
def minL (ds : List D) : R D := match asInts ds with
  | some (n :: ns) => .ok (.int (minI n ns))
  | some [] => .bad
  | none => match asPts ds with
    | some (p :: ps) => .ok (pt (minP p ps))
    | _ => .bad
def maxL (ds : List D) : R D := match asInts ds with
  | some (n :: ns) => .ok (.int (maxI n ns))
  | some [] => .bad
  | none => match asPts ds with
    | some (p :: ps) => .ok (pt (maxP p ps))
    | _ => .bad
def gMin : Sem1
  | [.list ds] => minL ds
  | [.tuple ds] => minL ds
  | [.int i, .int j] => .ok (.int (if j < i then j else i))
  | _ => .bad
def gMax : Sem1
  | [.list ds] => maxL ds
  | [.tuple ds] => maxL ds
  | [.int i, .int j] => .ok (.int (if j > i then j else i))
  | _ => .bad
def gInt : Sem1
  | [.int i] => .ok (.int i)
  | [.bool k] => .ok (.int (if k then 1 else 0))
  | [.str a] => (match PySem.intText? a with
    | some n => if a.length ≤ 640 then .ok (.int n) else .bad
    | none => .bad)
  | _ => .bad
def gStr : Sem1
  | [.int i] => if i.natAbs.log2 < 1920 then .ok (.str (Str.ofString (toString i))) else .bad
  | _ => .bad
def gList : Sem1
  | [.list ds] => .ok (.list ds)
  | [.tuple ds] => .ok (.list ds)
  | _ => .bad
def gTuple : Sem1
  | [.list ds] => .ok (.tuple ds)
  | [.tuple ds] => .ok (.tuple ds)
  | _ => .bad
def gSum : Sem1
  | [.list ds] => (match asInts ds with
    | some ns => .ok (.int ns.sum)
    | none => .bad)
  | _ => .bad
def gAll : Sem1
  | [.list ds] => (match asBls ds with
    | some bs => .ok (.bool (bs.all id))
    | none => .bad)
  | _ => .bad
section
variable {X : Cx} {W : WX}
theorem c_len : CallR X (.builtin "len") (rG X.K W gLen) := by
  intro pins s σ H xs us Q I rv h
  obtain ⟨Z, ds, hd, hv, o⟩ := h
  unfold gLen at o
  split at o
  · cases hv with
    | cons h1 t =>
      cases t
      cases h1 with
      | lst q1 q2 =>
        refine call_len_seq pins s σ H _ us Q I rv ⟨_, _, rfl, .inl (sql_same hid_same q1), ?_⟩
        rw [dpa_length q2]
        exact give o (.int _)
  · cases hv with
    | cons h1 t =>
      cases t
      cases h1 with
      | tup q1 q2 =>
        refine call_len_seq pins s σ H _ us Q I rv ⟨_, _, rfl, .inr (sqt_same hid_same q1), ?_⟩
        rw [dpa_length q2]
        exact give o (.int _)
  · cases hv with
    | cons h1 t =>
      cases t
      cases h1
      split at o
      · rename_i hz
        exact call_len_str pins s σ H _ us Q I rv ⟨_, rfl, hz, give o (.int _)⟩
      · exact o.elim
  · exact o.elim
theorem c_abs : CallR X (.builtin "abs") (rG X.K W gAbs) := by
  intro pins s σ H xs us Q I rv h
  obtain ⟨Z, ds, hd, hv, o⟩ := h
  unfold gAbs at o
  split at o
  · cases hv with
    | cons h1 t =>
      cases t
      cases h1
      exact call_abs pins s σ H _ us Q I rv ⟨_, rfl, give o (.int _)⟩
  · exact o.elim
theorem same_data {h h' : Heap} {v : Value} {d e : D} {as bs : List Addr} (k : ∀ b o, h.get? b = some o → h'.get? b = some o) (r1 : Reads h v d as) (r2 : Reads h' v e bs) (p1 : d.plain = true) (p2 : e.plain = true) : d = e := by
  rw [← SeqAt.readOf_plain p1 (Reads.keeps k r1), ← SeqAt.readOf_plain p2 r2]
/-- what min and max hand back, read as data -/
theorem best_of {pins : List (Addr × Obj)} {σ : L2.St} {H : Hp} {s : Shared} {Q : VK} {Z : Addr → Prop} {its : List Value} {xs : List V} {ds : List D} {e : D} {i : Nat} {v : Value} {h' : Heap} {tk : Nat} {bs : List Addr}
    (I : L2.Inv X pins σ H s) (rv : Vals xs its) (hds : DpAll X.K (hid H Z) xs ds) (pl : ∀ d ∈ ds, d.plain = true) (ple : e.plain = true) (hi : its.toArray[i]? = some v) (r : Reads h' v e bs) (k : ∀ b o, s.heap.get? b = some o → h'.get? b = some o)
    (o : OutE X.K W H Z (.ok e) Q) : EP X pins σ Q v { s with heap := h', toks := tk } := by
  have hi' : its[i]? = some v := by simpa using hi
  have hlt : i < its.length := (List.getElem?_eq_some_iff.mp hi').1
  have hx : i < xs.length := by rw [rv.length]; exact hlt
  obtain ⟨u, hu, ru⟩ := rv.get (List.getElem?_eq_getElem hx)
  rw [hi'] at hu
  cases hu
  obtain ⟨d, hd1, hd2⟩ := dpa_getV hds (List.getElem?_eq_getElem hx)
  obtain ⟨as, ra⟩ := reads_of I hd2 ru
  have e1 := same_data k ra r (pl d (List.mem_of_getElem? hd1)) ple
  subst e1
  exact ⟨_, H, I.kept (t' := tk) k, ru, give o hd2⟩
theorem plainI (xs : List Int) : ∀ d ∈ xs.map PyData.int, d.plain = true := fun d h => by
  obtain ⟨i, _, rfl⟩ := List.mem_map.mp h
  rw [PyData.plain]
theorem plainP (xs : List Pt) : ∀ d ∈ xs.map pt, d.plain = true := fun d h => by
  obtain ⟨i, _, rfl⟩ := List.mem_map.mp h
  exact plain_pt i
theorem minL_cases {ds : List D} {r : D} (h : minL ds = .ok r) : ∃ x xs, ds = x :: xs ∧ PySem.W.AlikeAll (x :: xs) ∧ PyData.depthAll (x :: xs) ≤ 1 ∧ (∀ d ∈ (x :: xs), d.plain = true) ∧ r = PySem.W.minD x xs ∧ r.plain = true := by
  unfold minL at h
  split at h
  · rename_i n ns q
    have e := asInts_of q
    cases h
    exact ⟨_, _, e, alike_int (n :: ns), depth_ints (n :: ns), plainI (n :: ns), (minD_int n ns).symm, by rw [PyData.plain]⟩
  · cases h
  · split at h
    · rename_i p ps q
      have e := asPts_of q
      cases h
      exact ⟨_, _, e, alike_pts (p :: ps), depth_pts (p :: ps), plainP (p :: ps), (minD_pt p ps).symm, plain_pt _⟩
    · cases h
theorem maxL_cases {ds : List D} {r : D} (h : maxL ds = .ok r) : ∃ x xs, ds = x :: xs ∧ PySem.W.AlikeAll (x :: xs) ∧ PyData.depthAll (x :: xs) ≤ 1 ∧ (∀ d ∈ (x :: xs), d.plain = true) ∧ r = PySem.W.maxD x xs ∧ r.plain = true := by
  unfold maxL at h
  split at h
  · rename_i n ns q
    have e := asInts_of q
    cases h
    exact ⟨_, _, e, alike_int (n :: ns), depth_ints (n :: ns), plainI (n :: ns), (maxD_int n ns).symm, by rw [PyData.plain]⟩
  · cases h
  · split at h
    · rename_i p ps q
      have e := asPts_of q
      cases h
      exact ⟨_, _, e, alike_pts (p :: ps), depth_pts (p :: ps), plainP (p :: ps), (maxD_pt p ps).symm, plain_pt _⟩
    · cases h
theorem minL_noexc {ds : List D} {c : Nat} : minL ds ≠ .exc c := by
  unfold minL
  split
  · intro h; cases h
  · intro h; cases h
  · split <;> (intro h; cases h)
theorem maxL_noexc {ds : List D} {c : Nat} : maxL ds ≠ .exc c := by
  unfold maxL
  split
  · intro h; cases h
  · intro h; cases h
  · split <;> (intro h; cases h)
theorem c_min (hc : X.calm = true) (hu : X.A.units + 64 < cLine) : CallR X (.builtin "min") (rG X.K W gMin) := by
  intro pins s σ H xs us Q I rv h
  obtain ⟨Z, ds, hd, hv, o⟩ := h
  unfold gMin at o
  split at o
  · rename_i ds
    cases hv with
    | cons h1 t =>
      cases t
      cases h1 with
      | lst q1 q2 =>
        cases hm : minL ds with
        | bad => rw [hm] at o; exact o.elim
        | exc c => exact (minL_noexc hm).elim
        | ok r =>
          rw [hm] at o
          obtain ⟨x, zs, rfl, al, dp, pl, er, pr⟩ := minL_cases hm
          obtain ⟨its, rl, pl1, hz⟩ := I.list (sql_same hid_same q1)
          obtain ⟨as, ra⟩ := readsAll_of I q2 rl
          rw [Vals.ref1 rv]
          refine PySem.W.min_list_data (I.ok.hd hc) pl1.isList ra al (by omega) fun i v h' tk bs e1 e2 e3 => ?_
          rw [← er] at e2
          exact best_of I rl q2 pl pr e1 e2 e3 o
  · rename_i ds
    cases hv with
    | cons h1 t =>
      cases t
      cases h1 with
      | tup q1 q2 =>
        cases hm : minL ds with
        | bad => rw [hm] at o; exact o.elim
        | exc c => exact (minL_noexc hm).elim
        | ok r =>
          rw [hm] at o
          obtain ⟨x, zs, rfl, al, dp, pl, er, pr⟩ := minL_cases hm
          obtain ⟨its, rl, pl1, hz⟩ := I.tuple (sqt_same hid_same q1)
          obtain ⟨as, ra⟩ := readsAll_of I q2 rl
          rw [Vals.ref1 rv]
          refine PySem.W.min_tuple_data (I.ok.hd hc) (show s.heap.IsTuple _ its.toArray from pl1) ra al (by omega) fun i v h' tk bs e1 e2 e3 => ?_
          rw [← er] at e2
          exact best_of I rl q2 pl pr e1 e2 e3 o
  · cases hv with
    | cons h1 t =>
      cases t with
      | cons h2 t =>
        cases t
        cases h1; cases h2
        exact call_min2 hc pins s σ H _ us Q I rv ⟨_, _, rfl, give o (.int _)⟩
  · exact o.elim
theorem c_max (hc : X.calm = true) (hu : X.A.units + 64 < cLine) : CallR X (.builtin "max") (rG X.K W gMax) := by
  intro pins s σ H xs us Q I rv h
  obtain ⟨Z, ds, hd, hv, o⟩ := h
  unfold gMax at o
  split at o
  · rename_i ds
    cases hv with
    | cons h1 t =>
      cases t
      cases h1 with
      | lst q1 q2 =>
        cases hm : maxL ds with
        | bad => rw [hm] at o; exact o.elim
        | exc c => exact (maxL_noexc hm).elim
        | ok r =>
          rw [hm] at o
          obtain ⟨x, zs, rfl, al, dp, pl, er, pr⟩ := maxL_cases hm
          obtain ⟨its, rl, pl1, hz⟩ := I.list (sql_same hid_same q1)
          obtain ⟨as, ra⟩ := readsAll_of I q2 rl
          rw [Vals.ref1 rv]
          refine PySem.W.max_list_data (I.ok.hd hc) pl1.isList ra al (by omega) fun i v h' tk bs e1 e2 e3 => ?_
          rw [← er] at e2
          exact best_of I rl q2 pl pr e1 e2 e3 o
  · rename_i ds
    cases hv with
    | cons h1 t =>
      cases t
      cases h1 with
      | tup q1 q2 =>
        cases hm : maxL ds with
        | bad => rw [hm] at o; exact o.elim
        | exc c => exact (maxL_noexc hm).elim
        | ok r =>
          rw [hm] at o
          obtain ⟨x, zs, rfl, al, dp, pl, er, pr⟩ := maxL_cases hm
          obtain ⟨its, rl, pl1, hz⟩ := I.tuple (sqt_same hid_same q1)
          obtain ⟨as, ra⟩ := readsAll_of I q2 rl
          rw [Vals.ref1 rv]
          refine PySem.W.max_tuple_data (I.ok.hd hc) (show s.heap.IsTuple _ its.toArray from pl1) ra al (by omega) fun i v h' tk bs e1 e2 e3 => ?_
          rw [← er] at e2
          exact best_of I rl q2 pl pr e1 e2 e3 o
  · cases hv with
    | cons h1 t =>
      cases t with
      | cons h2 t =>
        cases t
        cases h1; cases h2
        exact call_max2 hc pins s σ H _ us Q I rv ⟨_, _, rfl, give o (.int _)⟩
  · exact o.elim
theorem c_int : CallR X (.type "int") (rG X.K W gInt) := by
  intro pins s σ H xs us Q I rv h
  obtain ⟨Z, ds, hd, hv, o⟩ := h
  unfold gInt at o
  split at o
  · cases hv with
    | cons h1 t =>
      cases t
      cases h1
      exact call_int1 pins s σ H _ us Q I rv (.inl ⟨_, rfl, give o (.int _)⟩)
  · cases hv with
    | cons h1 t =>
      cases t
      cases h1
      exact call_int1 pins s σ H _ us Q I rv (.inr ⟨_, rfl, give o (.int _)⟩)
  · rename_i a
    cases hv with
    | cons h1 t =>
      cases t
      cases h1
      cases q : PySem.intText? a with
      | none => rw [q] at o; exact o.elim
      | some n =>
        rw [q] at o
        dsimp only at o
        split at o
        · rename_i hl
          exact call_int_str pins s σ H _ us Q I rv ⟨_, n, rfl, q, hl, give o (.int _)⟩
        · exact o.elim
  · exact o.elim
theorem c_str : CallR X (.type "str") (rG X.K W gStr) := by
  intro pins s σ H xs us Q I rv h
  obtain ⟨Z, ds, hd, hv, o⟩ := h
  unfold gStr at o
  split at o
  · cases hv with
    | cons h1 t =>
      cases t
      cases h1
      split at o
      · rename_i hl
        exact call_str_int pins s σ H _ us Q I rv ⟨_, rfl, hl, give o (.str _)⟩
      · exact o.elim
  · exact o.elim
theorem c_list : CallR X (.type "list") (rG X.K W gList) := by
  intro pins s σ H xs us Q I rv h
  obtain ⟨Z, ds, hd, hv, o⟩ := h
  unfold gList at o
  split at o
  · cases hv with
    | cons h1 t =>
      cases t
      cases h1 with
      | lst q1 q2 => exact call_list_of pins s σ H _ us Q I rv ⟨_, _, rfl, .inl (sql_same hid_same q1), giveL hd o q2⟩
  · cases hv with
    | cons h1 t =>
      cases t
      cases h1 with
      | tup q1 q2 => exact call_list_of pins s σ H _ us Q I rv ⟨_, _, rfl, .inr (sqt_same hid_same q1), giveL hd o q2⟩
  · exact o.elim
theorem c_tuple : CallR X (.type "tuple") (rG X.K W gTuple) := by
  intro pins s σ H xs us Q I rv h
  obtain ⟨Z, ds, hd, hv, o⟩ := h
  unfold gTuple at o
  split at o
  · cases hv with
    | cons h1 t =>
      cases t
      cases h1 with
      | lst q1 q2 => exact call_tuple_of pins s σ H _ us Q I rv ⟨_, _, rfl, .inl ⟨sql_same hid_same q1, giveT hd o q2⟩⟩
  · cases hv with
    | cons h1 t =>
      cases t
      cases h1 with
      | tup q1 q2 => exact call_tuple_of pins s σ H _ us Q I rv ⟨_, _, rfl, .inr ⟨sqt_same hid_same q1, give o (.tup q1 q2)⟩⟩
  · exact o.elim
theorem c_sum (hc : X.calm = true) : CallR X (.builtin "sum") (rG X.K W gSum) := by
  intro pins s σ H xs us Q I rv h
  obtain ⟨Z, ds, hd, hv, o⟩ := h
  unfold gSum at o
  split at o
  · rename_i ds
    cases q : asInts ds with
    | none => rw [q] at o; exact o.elim
    | some ns =>
      rw [q] at o
      have e := asInts_of q
      subst e
      cases hv with
      | cons h1 t =>
        cases t
        cases h1 with
        | lst q1 q2 =>
          have e := dpa_ints q2
          subst e
          exact cr_sum hc pins s σ H _ us Q I rv ⟨_, ns, rfl, sql_same hid_same q1, give o (.int _)⟩
  · exact o.elim
theorem c_all (hc : X.calm = true) : CallR X (.builtin "all") (rG X.K W gAll) := by
  intro pins s σ H xs us Q I rv h
  obtain ⟨Z, ds, hd, hv, o⟩ := h
  unfold gAll at o
  split at o
  · rename_i ds
    cases q : asBls ds with
    | none => rw [q] at o; exact o.elim
    | some ns =>
      rw [q] at o
      have e := asBls_of q
      subst e
      cases hv with
      | cons h1 t =>
        cases t
        cases h1 with
        | lst q1 q2 =>
          have e := dpa_bls q2
          subst e
          exact cr_all hc pins s σ H _ us Q I rv ⟨_, ns, rfl, sql_same hid_same q1, give o (.bl _)⟩
  · exact o.elim
end

/-! ### isinstance(x, T) -/
def isaD (T : String) (d : D) : Bool :=
  if T = "int" then d.isInt else if T = "bool" then d.isBool else if T = "str" then d.isStr else if T = "tuple" then d.isTuple else false
def okT (T : String) : Bool := T == "int" || T == "bool" || T == "str" || T == "tuple"
def gIsi (T : String) : D → R D := fun d => .ok (.bool (isaD T d))
def rIsiD (K : PySem.W.Frag) (W : WX) (T : String) : List V → Hp → VK → Prop := fun xs H Q => ∃ Z x d, xs = [x, .ty T] ∧ Dom H Z ∧ Dp K (hid H Z) x d ∧ OutE K W H Z (gIsi T d) Q
section
variable {X : Cx} {W : WX}
theorem c_isi {T : String} (hT : okT T = true) : CallR X (.builtin "isinstance") (rIsiD X.K W T) := by
  intro pins s σ H xs us Q I rv h
  obtain ⟨Z, x, d, rfl, hd, hx, o⟩ := h
  obtain ⟨u, w', rfl, r1, r2⟩ := vals2 rv
  obtain rfl : w' = Value.type T := r2
  obtain ⟨as, ra⟩ := reads_of I hx r1
  have fin : ∀ (b : Bool), isaD T d = b → ∀ tk : Nat, s.toks ≤ tk → EP X pins σ Q (.bool b) { s with toks := tk } := fun b e tk _ => by
    subst e
    exact ⟨.bl _, H, I.tok tk, rfl, give o (.bl _)⟩
  unfold okT at hT
  simp only [Bool.or_eq_true, beq_iff_eq] at hT
  rcases hT with ((e | e) | e) | e
  · subst e; exact PySem.W.isinstance_int_data ra (fin _ rfl)
  · subst e; exact PySem.W.isinstance_bool_data ra (fin _ rfl)
  · subst e; exact PySem.W.isinstance_str_data ra (fin _ rfl)
  · subst e; exact PySem.W.isinstance_tuple_data ra (fin _ rfl)
theorem ex_isi {T : String} {e : Expr} {c : CE} {p pt pos : Pos} {y : Str} (hT : okT T = true) (he : Ex X W e c) (hg : Gl X "isinstance") (hm : X.mg "isinstance" = none) (hg2 : Gl X y) (hm2 : X.mg y = none) (hv2 : bootBuiltins y = some (.type T)) (hn2 : y ≠ "__name__") (hd2 : (y == ("__debug__" : Str)) = false)
    (hs1 : starEach [e, .Name y pt] X.env = (false, eval e X.env) :: starEach [.Name y pt] X.env := by rfl) (hs2 : starEach [.Name y pt] X.env = (false, eval (.Name y pt) X.env) :: starEach [] X.env := by rfl) (hpl : (backTo pos (starEach [.Name y pt] X.env)).any (·.1) = false := by rfl) :
    Ex X W (.Call (.Name "isinstance" p) [e, .Name y pt] [] pos) (c1 (gIsi T) c) :=
  ⟨PE_weak (pe_callB (c_isi hT) hg hm PyProof.Rows.boot_isinstance (pa_cons he.run (pa_cons (pe_bltn (v := .ty T) hg2 hm2 hv2 rfl hn2 hd2) pa_nil hs2) hs1) (by decide) (by decide) hs1 hpl) fun σ H Q ⟨Z, ρ, hd, hr, ho⟩ =>
    seqE hd hr ho fun d v H1 e1 d1 r1 hv o1 => ⟨Z, v, d, rfl, d1, hv, o1⟩⟩
end

/-! ### list.index -/
def placeD (d : D) : List D → Option Nat
  | [] => none
  | z :: zs => if PyData.eqv z d = true then some 0 else (placeD d zs).map (· + 1)
theorem placeD_some {d : D} : ∀ {zs : List D} {j : Nat}, placeD d zs = some j → ∃ z, zs[j]? = some z ∧ PyData.eqv z d = true ∧ ∀ (m : Nat) z', m < j → zs[m]? = some z' → PyData.eqv z' d = false
  | [], _, h => by cases h
  | z :: zs, j, h => by
    unfold placeD at h
    split at h
    · rename_i e
      cases h
      exact ⟨z, rfl, e, fun m z' hm => absurd hm (Nat.not_lt_zero m)⟩
    · rename_i e
      cases q : placeD d zs with
      | none => rw [q] at h; cases h
      | some k =>
        rw [q] at h
        cases h
        obtain ⟨w, h1, h2, h3⟩ := placeD_some q
        refine ⟨w, h1, h2, fun m z' hm hz => ?_⟩
        cases m with
        | zero => cases hz; exact Bool.eq_false_iff.mpr e
        | succ m =>
          have hm : m + 1 < k + 1 := hm
          exact h3 m z' (by omega) hz
def gIndex : D → Sem1
  | .list ds, [d] => if SeqAt.shaped (.list ds) && SeqAt.shaped d then (match placeD d ds with
    | some j => .ok (.int j)
    | none => .bad) else .bad
  | _, _ => .bad
theorem m_index {X : Cx} {W : WX} (hu : X.A.units + 65 < cLine) : MtR X "list.index" (rMG X.K W gIndex) := by
  intro pins s σ H x xs v us Q I rx rs h
  obtain ⟨Z, d, ds, hd, hx, hv, o⟩ := h
  unfold gIndex at o
  split at o
  · rename_i zs e
    split at o
    · rename_i hs
      rw [Bool.and_eq_true] at hs
      cases q : placeD e zs with
      | none => rw [q] at o; exact o.elim
      | some j =>
        rw [q] at o
        obtain ⟨z, h1, h2, h3⟩ := placeD_some q
        cases hv with
        | cons hv t =>
          cases t
          cases hx with
          | lst q1 q2 => exact mt_indexD hu pins s σ H _ _ v us Q I rx rs ⟨_, _, e, zs, j, z, rfl, rfl, dp_same hid_same (.lst q1 q2), dp_same hid_same hv, hs.1, hs.2, h1, h2, h3, give o (.int _)⟩
    · exact o.elim
  · exact o.elim

/-! ### methods of built-in types -/
def isTyD (T : String) : D → Bool
  | .list _ => T == "list"
  | .str _ => T == "str"
  | _ => false
def cM (T : String) (g : D → Sem1) (c : CE) (cs : Env → R (List D)) : CE := fun ρ => (c ρ).bind fun d => if isTyD T d then (cs ρ).bind fun ds => g d ds else .bad
theorem tyV_of {K : PySem.W.Frag} {H : Hp} {T : String} {v : V} {d : D} (h : Dp K H v d) (hT : isTyD T d = true) : tyV K T v H := by
  cases h with
  | str z => exact eq_of_beq hT
  | lst h1 h2 => exact .inl ⟨eq_of_beq hT, _, h1⟩
  | _ => cases hT
theorem tyV_same {K : PySem.W.Frag} {H H' : Hp} {T : String} {v : V} {d : D} (e : Same H H') (h : Dp K H v d) (hT : isTyD T d = true) : tyV K T v H' := tyV_of (dp_same e h) hT
section
variable {X : Cx} {W : WX} {o e : Expr} {es : List Expr} {c : CE} {cs : Env → R (List D)} {name : Str} {apos cpos : Pos} {T id : String} {g : D → Sem1}
theorem ex_meth (pa : PlainAttrs T) (slot : Slot T name id) (hty : typeOf (.builtin id) = pure (.type "method_descriptor")) (hm : MtR X id (rMG X.K W g)) (ho : Ex X W o c) (ha : Ar X W (e :: es) cs)
    (hbase : attributeBase o name X.env (eval o X.env) = eval o X.env := by rfl)
    (hfew : ((backTo cpos (starEach (e :: es) X.env)).all (fun x => !x.1) && (backToKw cpos (keywordEach [] X.env)).all (fun x => x.1.isSome) && decide ((e :: es).length + ([] : List Keyword).length + (if ([] : List Keyword).isEmpty then 0 else 1) < 30)) = true := by rfl)
    (hline : (apos.endLine == cpos.line) = true := by rfl) (hs : starEach (e :: es) X.env = (false, eval e X.env) :: starEach es X.env := by rfl) (hplain : (backTo cpos (starEach es X.env)).any (·.1) = false := by rfl) :
    Ex X W (.Call (.Attribute o name apos) (e :: es) [] cpos) (cM T g c cs) :=
  ⟨PE_weak (pe_bm pa slot hty hm ho.run ha.run hbase hfew hline hs hplain) fun σ H Q ⟨Z, ρ, hd, hr, hq⟩ => seqE hd hr hq fun d v H1 e1 d1 r1 hv o1 => by
    split at o1
    · rename_i hT
      exact ⟨tyV_same hid_same hv hT, seqA d1 r1 o1 fun ds vs H2 e2 d2 r2 hvs o2 => ⟨Z, d, ds, d2, dp_same (hid_mono e2) hv, hvs, o2⟩⟩
    · exact o1.elim⟩
end
end PL

set_option Elab.async false
set_option linter.all false
set_option maxRecDepth 100000
set_option maxHeartbeats 4000000
/-! PL: enumerate over lists and tuples; slices backwards. -/
namespace PL
open PySem PySem.Spec PyProof.Rows L2
set_option maxHeartbeats 1000000 in
theorem enum_made1 {v : Value} {o : Obj} {H : Heap → Prop} (B : Begins v o H) :
    Meets (Builtin.«enumerate.__new__» ⟨[.type "enumerate", v], []⟩) (fun _ R s => H s.heap ∧
      R (.ok (.ret (.ref (s.heap.push o).objs.size))) { s with heap := (s.heap.push o).push { cls := .type "enumerate", data := .fields #[.none, .bool false, .ref s.heap.objs.size, rawInt 0, .none, .none] } }) :=
  .of_wp fun prog w A R s hh => by
    obtain ⟨hp, gg, dd, tt, oo⟩ := s
    obtain ⟨hb, hR⟩ := hh
    have isE := sub_enumerate
    have itr : ∀ {A' : Around} {E : Value → Shared → Prop} {Q : Value → Shared → Prop}, Q (.ref hp.objs.size) ⟨hp.push o, gg, dd, tt, oo⟩ → wpAny (model prog w) A' (pyIter v) Q E ⟨hp, gg, dd, tt, oo⟩ :=
      fun q => B.iter prog w _ _ ⟨hp, gg, dd, tt, oo⟩ _ hb q
    wp_walk using itr
    refine wpAny_stack_any fun st => wpAny_pure ?_
    split
    · rename_i c _ _ _ _ _
      cases (c == Value.type "enumerate")
      · wp_walk using itr
        exact ⟨_, rfl, hR⟩
      · wp_walk using itr
        exact ⟨_, rfl, hR⟩
    · wp_walk using itr
      exact ⟨_, rfl, hR⟩
theorem enum_call1 {prog : Program} {w : World} {A : Around} {E : Value → Shared → Prop} {s : Shared} {v : Value} {o : Obj} {H : Heap → Prop} {Q : Value → Shared → Prop} (B : Begins v o H) (hb : H s.heap)
    (k : ∀ h', IsEnum h' (s.heap.objs.size + 1) s.heap.objs.size 0 .none → h'.get? s.heap.objs.size = some o → (∀ b u, s.heap.get? b = some u → h'.get? b = some u) → Q (.ref (s.heap.objs.size + 1)) { s with heap := h' }) :
    wpAny (model prog w) A (call (.type "enumerate") [v]) Q E s := by
  refine callType_new F.called_enumerate (by decide) (F.typeCall_enumerate_1 _) (F.newCall_enumerate_1 _) (fun obj => F.args_object_init_2 obj _) F.entry_enumerate_new (enum_made1 B) ⟨hb, ?_⟩
  have sz : (s.heap.push o).objs.size = s.heap.objs.size + 1 := Heap.size_push ..
  show _ ∧ _
  rw [sz]
  have top := Heap.get?_push_size (s.heap.push o) (o := { cls := .type "enumerate", data := .fields #[.none, .bool false, .ref s.heap.objs.size, rawInt 0, .none, .none] }) rfl
  rw [sz] at top
  exact ⟨⟨_, top, rfl⟩, k _ top (Heap.get?_push_of_some _ (Heap.get?_push_size _ B.free)) fun b u e => Heap.get?_push_of_some _ (Heap.get?_push_of_some _ e)⟩

/-- the tuple at a, each item in a new pair -/
def Itet (K : PySem.W.Frag) (a : Addr) : It where
  go i H := ∃ (xs : List V) (x : V), SqT K H a xs ∧ xs[i]? = some x
  yld i H v H' := ∃ T x, v = .ref T ∧ H T = none ∧ H' = upd H T (.tup [.int (i : Nat), x]) ∧ ∀ xs, SqT K H a xs → xs[i]? = some x
  stop i H := ∃ xs : List V, SqT K H a xs ∧ xs.length = i
theorem tuple_inj {X : Cx} {pins : List (Addr × Obj)} {σ : L2.St} {H : Hp} {s : Shared} {a : Addr} {xs ys : List V} (I : L2.Inv X pins σ H s) (h1 : SqT X.K H a xs) (h2 : SqT X.K H a ys) : xs = ys := by
  obtain ⟨us, r1, ⟨o1, e1, _, n1, d1⟩, _⟩ := I.tuple h1
  obtain ⟨ws, r2, ⟨o2, e2, _, n2, d2⟩, _⟩ := I.tuple h2
  rw [e1] at e2
  cases e2
  rw [d1] at d2
  cases d2
  exact Vals.inj r1 r2
theorem turn_enumT {P : Program} {w : World} {K : PySem.W.Frag} {elts : List Expr} {kk : Nat} {tpos : Pos} (a e it : Addr) (hea : e ≠ a) (hia : it ≠ a) :
    Turn P w K (.Tuple elts kk tpos) (Itet K a) [e, it] e (fun i h => (∃ old, IsEnum h e it ((i : Nat) : Int) old) ∧ h.IsTupleIter it a i ∧ e ≠ it) where
  mem := List.mem_cons_self
  obj i h st b hb := by
    obtain ⟨⟨old, he⟩, ⟨o, ho, hc, hd⟩, _⟩ := st
    rcases List.mem_cons.mp hb with z | z
    · subst z; exact ⟨_, he, fun v q => nomatch q⟩
    · have z : b = it := by simpa using z
      subst z
      exact ⟨o, ho, fun v q => by rw [hd] at q; cases q⟩
  keep i h h' st k := by
    obtain ⟨⟨old, he⟩, hi, hne⟩ := st
    exact ⟨⟨old, k e (by simp) _ he⟩, hi.at fun o q => k it (by simp) o q, hne⟩
  item := by
    intro X hP hw hK hc i pins s σ H E I hf st hg
    subst hP hw hK
    obtain ⟨⟨old, he⟩, hit, hne⟩ := st
    obtain ⟨xs, x, hq, hx⟩ := hg
    obtain ⟨its, rv, p, hz⟩ := I.tuple hq
    obtain ⟨u, hu, ru⟩ := rv.get hx
    have hel : e < s.heap.objs.size := Heap.lt_size he
    have hil : it < s.heap.objs.size := by obtain ⟨_, q, _⟩ := hit; exact Heap.lt_size q
    have hlt : i < its.toArray.size := by
      rw [List.size_toArray]
      exact (List.getElem?_eq_some_iff.mp hu).1
    have p : s.heap.IsTuple a its.toArray := p
    refine wpAny_pyNext_enum_itemD (Draws.tuple (show X.A.in1.handled = none from I.ok.hd hc) it a (Ne.symm hia) its.toArray) he ⟨hit, p⟩ hlt hne (fun z => by
      rcases List.mem_cons.mp z with z | z
      · exact hne z
      · exact hea (by simpa using z)) fun y h' tk hP ho hst hT hsz hk => ?_
    have ey : y = u := by
      have q : its.toArray[i]? = some u := by simpa using hu
      rw [hP] at q
      exact Option.some.inj q
    subst ey
    refine ⟨_, rfl, wpAny_letOwnedTupleGo_enum (s := { s with heap := h', toks := tk + 1 }) ho fun h'' he' sb => ?_⟩
    have hT2 : h''.get? s.heap.objs.size = some { cls := .type "tuple", data := .seq #[.int i tk, y] } := (sb.2 _ (Nat.ne_of_gt hel)).trans hT
    have new : ObjOk X.prog X.w (upd H s.heap.objs.size (.tup [.int (i : Nat), x])) h'' s.heap.objs.size (.tup [.int (i : Nat), x]) :=
      ⟨by show 2 ≤ sizeLine; decide, [.int i tk, y], .cons ⟨_, rfl⟩ (.cons ru .nil), ⟨_, hT2, rfl, _, rfl⟩⟩
    have I1 := I.turnedNew (h' := h'') (t' := tk + 1) (ch := [e, it]) (fun b ob hb q => (sb.2 b (fun z => hb (by simp [z]))).trans (hk b ob (fun z => hb (by simp [z])) (fun z => hb (by simp [z])) q)) hf (Nat.le_refl _) new
    refine ⟨.ref s.heap.objs.size, _, I1, rfl, ⟨_, x, rfl, I.hok.fresh (Nat.le_refl _), rfl, fun ys hy => by rw [tuple_inj I hy hq]; exact hx⟩, ⟨⟨y, ?_⟩, hst.1.at fun o q => (sb.2 it (Ne.symm hne)).trans q, hne⟩, fun b hb => ?_⟩
    · have e1 : ((i + 1 : Nat) : Int) = (i : Int) + 1 := by omega
      rw [e1]; exact he'
    · have hb' : b < s.heap.objs.size := by
        rcases List.mem_cons.mp hb with z | z
        · rw [z]; exact hel
        · have z : b = it := by simpa using z
          rw [z]; exact hil
      rw [upd_ne (Nat.ne_of_lt hb')]
      exact (hf b hb).1
  done := by
    intro X hP hw hK hc i pins s σ H E I hf st hg
    subst hP hw hK
    obtain ⟨⟨old, he⟩, hit, hne⟩ := st
    obtain ⟨xs, hq, hx⟩ := hg
    obtain ⟨its, rv, p, hz⟩ := I.tuple hq
    obtain ⟨f0, f1, f2, f3, f4, f5⟩ := hf it (by simp)
    have hl := rv.length
    have hi : its.toArray.size = i := by rw [List.size_toArray, ← hl]; exact hx
    subst hi
    refine wpAny_pyNext_enum_endD (Draws.tuple (show X.A.in1.handled = none from I.ok.hd hc) it a (Ne.symm hia) its.toArray) he ⟨hit, p⟩ fun h' eb => ⟨rfl, ?_⟩
    exact I.turned (t' := s.toks) (fun b o hb q => eb b o hb q) f0 f1 f3 f4 f5
  self A i s Q E st h := by
    obtain ⟨⟨_, he⟩, _⟩ := st
    exact wpAny_pyIter_enum he h
def enumD (ds : List D) : List D := (List.range ds.length).map fun (i : Nat) => .tuple [.int (i : Int), ds.getD i .none]
theorem enumD_len (ds : List D) : (enumD ds).length = ds.length := by unfold enumD; simp
theorem enumD_get {ds : List D} {i : Nat} {d : D} (h : ds[i]? = some d) : (enumD ds)[i]? = some (.tuple [.int (i : Int), d]) := by
  unfold enumD
  have hi := (List.getElem?_eq_some_iff.mp h).1
  rw [List.getElem?_map, List.getElem?_range hi]
  show some (PyData.tuple [PyData.int (i : Int), ds.getD i PyData.none]) = _
  rw [List.getD_eq_getElem?_getD, h]
  rfl
section
variable {K : PySem.W.Frag} {X : Cx} {W : WX} {e : Expr} {c : CE} {pos p tpos : Pos} {elts : List Expr} {kk : Nat}
theorem srcOk_enumL {a : Addr} {xs : List V} {ds : List D} (hl : xs.length = ds.length) : SrcOk K (enumD ds) (Ite K a) (fun H => SqL K H a xs ∧ DpAll K H xs ds) where
  mono H H' e q := ⟨sql_same e q.1, dpAll_same e q.2⟩
  goes i H hi q := by
    rw [enumD_len] at hi
    exact ⟨xs, xs[i]'(by omega), q.1, by simp [hl, hi]⟩
  stops H q := by
    rw [enumD_len]
    exact ⟨xs, q.1, by omega⟩
  yields i H x H' Z hi hd q y := by
    obtain ⟨T, u, rfl, hT, rfl, y⟩ := y
    obtain ⟨d, h1, h2⟩ := dpa_getV q.2 (y xs (sql_same hid_same q.1))
    exact ⟨same_new hT, _, enumD_get h1, .tup (.inl (.inl (hid_new hd hT))) (.cons (.int _) (.cons (dp_same (hid_mono (same_new hT)) h2) .nil))⟩
theorem srcOk_enumT {a : Addr} {xs : List V} {ds : List D} (hl : xs.length = ds.length) : SrcOk K (enumD ds) (Itet K a) (fun H => SqT K H a xs ∧ DpAll K H xs ds) where
  mono H H' e q := ⟨sqt_same e q.1, dpAll_same e q.2⟩
  goes i H hi q := by
    rw [enumD_len] at hi
    exact ⟨xs, xs[i]'(by omega), q.1, by simp [hl, hi]⟩
  stops H q := by
    rw [enumD_len]
    exact ⟨xs, q.1, hl⟩
  yields i H x H' Z hi hd q y := by
    obtain ⟨T, u, rfl, hT, rfl, y⟩ := y
    obtain ⟨d, h1, h2⟩ := dpa_getV q.2 (y xs (sqt_same hid_same q.1))
    exact ⟨same_new hT, _, enumD_get h1, .tup (.inl (.inl (hid_new hd hT))) (.cons (.int _) (.cons (dp_same (hid_mono (same_new hT)) h2) .nil))⟩
def iEnumT (K : PySem.W.Frag) (ta : TA) : TI := fun σ H R => ta σ H fun vs H1 => ∃ a xs, vs = [.ref a] ∧ SqT K H1 a xs ∧ R (Itet K a) H1
theorem pi_enumT {ta : TA} (hg : Gl X "enumerate") (hm : X.mg "enumerate" = none) (ha : PA X [e] ta) (hs : starEach [e] X.env = [(false, eval e X.env)]) : PI X (.Tuple elts kk tpos) (.Call (.Name "enumerate" p) [e] [] pos) (iEnumT X.K ta) := by
  refine ⟨fun pins s σ H R I h => ?_⟩
  refine Call_ (ld_blt I hg hm boot_enumerate (PyProof.Rows.callWith_type1 (thn (ha.run pos pins s σ H _ I h) fun us s1 ⟨vs, H1, I1, r1, q1⟩ => ?_) hs rfl))
  obtain ⟨a, xs, ex, hq, q⟩ := q1
  subst ex
  rw [Vals.ref1 r1]
  obtain ⟨its, rv, p', hz⟩ := I1.tuple hq
  have p' : s1.heap.IsTuple a its.toArray := p'
  have ha' : a < s1.heap.objs.size := by obtain ⟨o, ho, _⟩ := id p'; exact Heap.lt_size ho
  refine enum_call1 (begins_tuple a its.toArray) p' fun h' he hit hk => wpAny_pyIter_enum he ?_
  have I2 : L2.Inv X pins σ H1 { s1 with heap := h' } := I1.kept (t' := s1.toks) hk
  refine ⟨s1.heap.objs.size + 1, [s1.heap.objs.size + 1, s1.heap.objs.size], _, _, H1, rfl, I2, turn_enumT a (s1.heap.objs.size + 1) s1.heap.objs.size (Nat.ne_of_gt (Nat.lt_succ_of_lt ha')) (Nat.ne_of_gt ha'), ⟨⟨.none, he⟩, ⟨_, hit, rfl, rfl⟩, Nat.succ_ne_self _⟩, fun b hb => ?_, q⟩
  have hle : s1.heap.objs.size ≤ b := by
    rcases List.mem_cons.mp hb with z | z
    · rw [z]; exact Nat.le_succ _
    · have z : b = s1.heap.objs.size := by simpa using z
      rw [z]; exact Nat.le_refl _
  exact I1.fpOk hle (I1.hok.fresh hle)
def enumV : List D → R (List D)
  | [.list ds] => .ok (enumD ds)
  | [.tuple ds] => .ok (enumD ds)
  | _ => .bad
theorem enumV_cases (ds : List D) : (∃ es, ds = [.list es] ∧ enumV ds = .ok (enumD es)) ∨ (∃ es, ds = [.tuple es] ∧ enumV ds = .ok (enumD es)) ∨ enumV ds = .bad := by
  unfold enumV
  split
  · exact .inl ⟨_, rfl, rfl⟩
  · exact .inr (.inl ⟨_, rfl, rfl⟩)
  · exact .inr (.inr rfl)
def aOne (c : CE) : Env → R (List D) := aCons c aNil
theorem src_enum {cs : Env → R (List D)} (hg : Gl X "enumerate") (hm : X.mg "enumerate" = none) (ha : Ar X W [e] cs) (hs : starEach [e] X.env = [(false, eval e X.env)] := by rfl) :
    Src X W (.Tuple elts kk tpos) (.Call (.Name "enumerate" p) [e] [] pos) (fun ρ => (cs ρ).bind enumV) := ⟨⟨fun pins s σ H T I ⟨Z, ρ, hd, hr, ho⟩ => by
  dsimp only at ho
  cases hc : cs ρ with
  | exc x =>
    rw [hc] at ho
    exact (pi_enum hg hm ha.run hs).run pins s σ H T I ⟨Z, ρ, hd, hr, by rw [hc]; exact ho⟩
  | bad => rw [hc] at ho; exact ho.elim
  | ok ds =>
    rw [hc, R.bind_ok] at ho
    rcases enumV_cases ds with ⟨es, rfl, hq⟩ | ⟨es, rfl, hq⟩ | hq
    · rw [hq] at ho
      refine (pi_enum hg hm ha.run hs).run pins s σ H T I ⟨Z, ρ, hd, hr, ?_⟩
      rw [hc]
      intro vs H' e' hv
      cases hv with
      | cons h1 t =>
        cases t
        cases h1 with
        | lst q1 q2 => exact ⟨_, _, rfl, sql_same hid_same q1, ho _ H' _ e' (srcOk_enumL (dpa_length q2)) ⟨q1, q2⟩⟩
    · rw [hq] at ho
      refine (pi_enumT hg hm ha.run hs).run pins s σ H T I ⟨Z, ρ, hd, hr, ?_⟩
      rw [hc]
      intro vs H' e' hv
      cases hv with
      | cons h1 t =>
        cases t
        cases h1 with
        | tup q1 q2 => exact ⟨_, _, rfl, sqt_same hid_same q1, ho _ H' _ e' (srcOk_enumT (dpa_length q2)) ⟨q1, q2⟩⟩
    · rw [hq] at ho
      exact ho.elim⟩⟩
/-- xs[::-1] of a list -/
def gRev : D → R D
  | .list ds => .ok (.list ds.reverse)
  | _ => .bad
theorem ex_revL {k : Nat} {p1 p2 p3 : Pos} (he : Ex X W e c) : Ex X W (.Subscript e (.Slice none none (some (.UnaryOp .USub (.Constant (.int 1) k p1) p2)) p3) pos) (c1 gRev c) :=
  ⟨PE_weak (pe_revL he.run) fun σ H Q ⟨Z, ρ, hd, hr, ho⟩ => seqE hd hr ho fun d v H1 e1 d1 r1 hv o1 => by
    cases d with
    | list ds =>
      cases hv with
      | lst q1 q2 => exact ⟨_, _, rfl, sql_same hid_same q1, giveL d1 o1 (dpa_rev q2)⟩
    | _ => exact o1.elim⟩
end
end PL

set_option Elab.async false
set_option linter.all false
set_option maxRecDepth 100000
set_option maxHeartbeats 4000000
/-! PL: min and max of two things by a def's key. -/
namespace PL
open PySem PySem.Spec PyProof.Rows L2
/-- the same place, one call deeper, nothing raised -/
def deep (X : Cx) : Cx := { X with A := X.A.in1, xe := fun _ _ => False }
theorem inv_deep {X : Cx} {pins : List (Addr × Obj)} {σ : L2.St} {H : Hp} {s : Shared} (I : L2.Inv X pins σ H s) : L2.Inv (deep X) pins σ H s :=
  ⟨⟨I.ok.mod, I.ok.kind, I.ok.glob, I.ok.blt, I.ok.above, I.ok.inj, I.ok.has, I.ok.cab, I.ok.hd, I.ok.frames, I.ok.stk, I.ok.exf, I.ok.bs, I.ok.bsz, I.ok.noex, I.ok.exfs, I.ok.funs, I.ok.frf⟩, I.os, I.bare, I.base, I.loc, I.cell, I.free, I.freeC, I.pin, I.hok, I.len⟩
theorem inv_undeep {X : Cx} {pins : List (Addr × Obj)} {σ : L2.St} {H : Hp} {s : Shared} (I : L2.Inv (deep X) pins σ H s) : L2.Inv X pins σ H s :=
  ⟨⟨I.ok.mod, I.ok.kind, I.ok.glob, I.ok.blt, I.ok.above, I.ok.inj, I.ok.has, I.ok.cab, I.ok.hd, I.ok.frames, I.ok.stk, I.ok.exf, I.ok.bs, I.ok.bsz, I.ok.noex, I.ok.exfs, I.ok.funs, I.ok.frf⟩, I.os, I.bare, I.base, I.loc, I.cell, I.free, I.freeC, I.pin, I.hok, I.len⟩
/-- records of one's own turn, nothing else -/
theorem inv_moved {X : Cx} {pins : List (Addr × Obj)} {σ : L2.St} {H : Hp} {s s' : Shared} {ch : List Addr} (I : L2.Inv X pins σ H s) (hf : ∀ b ∈ ch, FpOk X pins H b) (m : Moved ch (fun a b => b = a) s s') : L2.Inv X pins σ H s' := by
  have nch : ∀ b o, H b = some o → b ∉ ch := fun b o e z => by rw [(hf b z).1] at e; cases e
  refine I.call' (ch := ch) m.os ⟨fun b o e _ _ hx => m.heap b o hx e, fun b o e _ _ hx => ⟨o.slots, m.heap b o hx e⟩, fun _ _ _ n _ => n, fun b o e hx => ⟨o, m.heap b o hx e⟩, fun _ _ e => e, fun _ _ _ e => e, fun b ps e => ⟨#[], by rw [e]; simp⟩⟩ (fun b o e => ?_) (by rw [m.gens]; exact I.bare) (fun b hb => ?_)
  · refine (I.hok b o e).stay (fun c u hc q => m.heap c u ?_ q) (fun _ q => q) (fun _ _ q => q)
    rcases hc with z | z
    · rw [z]; exact nch b o e
    · exact nch c _ z
  · obtain ⟨f0, f1, f2, f3, f4, f5⟩ := hf b hb
    exact ⟨f3, f1, f4, f5⟩
theorem fp_stack {X : Cx} {pins : List (Addr × Obj)} {σ : L2.St} {H : Hp} {s : Shared} {b : Addr} (I : L2.Inv X pins σ H s) (f : FpOk X pins H b) : b ∉ frs X.stack := fun z => by
  rcases List.mem_cons.mp (I.stkSub b z) with e | e
  · exact f.2.1 e
  · exact f.2.2.1 e

theorem args_min2k (a b v : Value) : argsOk "min" ⟨[a, b], [(Str.ofString "key", v)]⟩ := by unfold argsOk; kernel_rfl
def gmin2K (sem : Sem1) : D → D → R D := fun d e => match sem [d], sem [e] with
  | .ok (.int i), .ok (.int j) => .ok (if j < i then e else d)
  | _, _ => .bad
def rmin2K (K : PySem.W.Frag) (W : WX) (f : Addr) (sem : Sem1) : List V → List V → Hp → VK → Prop := fun xs zs H Q => ∃ Z x y d e, xs = [x, y] ∧ zs = [.ref f] ∧ Dom H Z ∧ Dp K (hid H Z) x d ∧ Dp K (hid H Z) y e ∧ OutE K W H Z (gmin2K sem d e) Q
set_option maxHeartbeats 1000000 in
theorem c_min2K {X : Cx} {W : WX} {Cl : Nat → Addr} {k : Nat} {f : Addr} {fd : FuncData} {p : Str} {sem : Sem1} (hc : X.calm = true) (F : FnOk X.prog X.w X.K X.mg X.base CX0 k f fd [p] (spF X.K Cl 1 sem)) (hr : Room (k + 1) X.A) (hb : Binds X.K fd [p] []) :
    CallRK X (.builtin "min") [Str.ofString "key"] (rmin2K X.K W f sem) := by
  intro pins s σ H xs zs us ws Q I rv rz h
  obtain ⟨Z, x, y, d, e, rfl, rfl, hd, hx, hy, o⟩ := h
  obtain ⟨u1, u2, rfl, r1, r2⟩ := vals2 rv
  rw [Vals.ref1 rz]
  unfold gmin2K at o
  cases q1 : sem [d] with
  | exc c => rw [q1] at o; exact o.elim
  | bad => rw [q1] at o; exact o.elim
  | ok k1 =>
    rw [q1] at o
    cases q2 : sem [e] with
    | exc c => rw [q2] at o; cases k1 <;> exact o.elim
    | bad => rw [q2] at o; cases k1 <;> exact o.elim
    | ok k2 =>
      rw [q2] at o
      have e1 : ∃ i, k1 = .int i := by cases k1 <;> first | exact ⟨_, rfl⟩ | exact o.elim
      obtain ⟨i, rfl⟩ := e1
      have e2 : ∃ j, k2 = .int j := by cases k2 <;> first | exact ⟨_, rfl⟩ | exact o.elim
      obtain ⟨j, rfl⟩ := e2
      dsimp only at o
      have hname : (toString "min" ++ toString ".loop" : String) = "min.loop" := by decide
      show wpAny (model X.prog X.w) X.A (call (.builtin "min") [u1, u2] [(Str.ofString "key", .ref f)]) _ _ s
      refine kmk_tree PySem.F.kind_min PySem.F.plain_min PySem.F.entry_min (args_min2k u1 u2 (.ref f)) ?_
      show wpAny _ X.A.in1 (Builtin.Builtins.bindParams "min" ["key", "default"] 0 ⟨[], [(Str.ofString "key", .ref f)]⟩ >>= _) _ _ s
      refine wpAny_bind (wpAny_of_eq (show Builtin.Builtins.bindParams "min" ["key", "default"] 0 ⟨[], [(Str.ofString "key", .ref f)]⟩ = pure [some (.ref f), none] from rfl) ?_)
      show wpAny _ X.A.in1 (newTuple [u1, u2] >>= _) _ _ s
      refine wpAny_bind (wpAny_newObj_type ?_)
      generalize hT : s.heap.objs.size = T
      have hTup : (s.heap.push { cls := .type "tuple", data := .seq [u1, u2].toArray }).IsTuple T #[u1, u2] := ⟨_, by rw [← hT]; exact Heap.get?_push_size _ rfl, rfl, _, rfl⟩
      refine wpAny_bind (PySem.W.iter_tupleW (I.ok.hd hc) hTup fun s2 e2 Wk st0 hfp hwr kp => ?_)
      have sz1 : (s.heap.push { cls := .type "tuple", data := .seq [u1, u2].toArray }).objs.size = T + 1 := by rw [Heap.size_push, hT]
      generalize hI0 : (s.heap.push { cls := .type "tuple", data := .seq [u1, u2].toArray }).objs.size = I0 at *
      have sz2 : s2.heap.objs.size = T + 2 := by rw [e2]; show (Heap.push _ _).objs.size = _; rw [Heap.size_push, hI0, sz1]
      have kp2 : ∀ b ob, s.heap.get? b = some ob → s2.heap.get? b = some ob := fun b ob q => kp b ob (Heap.get?_push_of_some _ q)
      refine wpAny_bind (wpAny_newObj_type ?_)
      rw [hname]
      generalize hs3 : ({ s2 with heap := s2.heap.push { cls := .type "list", data := .seq ([] : List Value).toArray } } : Shared) = s3
      have h3 : s3.heap = s2.heap.push { cls := .type "list", data := .seq ([] : List Value).toArray } := by rw [← hs3]
      have kp3 : ∀ b ob, s.heap.get? b = some ob → s3.heap.get? b = some ob := fun b ob q => by rw [h3]; exact Heap.get?_push_of_some _ (kp2 b ob q)
      have I3 : L2.Inv (deep X) pins σ H s3 := by
        have q := (inv_deep I).kept (h' := s3.heap) (t' := s.toks) kp3
        have e3 : ({ s with heap := s3.heap, toks := s.toks } : Shared) = s3 := by rw [← hs3, e2]
        rw [e3] at q
        exact q
      have fp : ∀ b, T ≤ b → FpOk (deep X) pins H b := fun b hb => (inv_deep I).fpOk (by rw [hT]; exact hb) (I.hok.fresh (by rw [hT]; exact hb))
      have e2' : I0 = T + 1 := sz1
      have hS : s3.heap.get? (T + 2) = some { cls := .type "list", data := .seq #[] 0 } := by rw [h3, ← sz2]; exact Heap.get?_push_size _ rfl
      have hSf : s2.heap.objs.size ∉ [I0, T] := fun hm => Nat.lt_irrefl _ (hfp _ hm)
      have st3 : s3.heap.IsTupleIter I0 T 0 ∧ s3.heap.IsTuple T #[u1, u2] := by
        rw [h3]
        exact ⟨st0.1.at fun ob q => Heap.get?_push_of_some _ q, st0.2.push _⟩
      let bt : Nat → Nat → Bool := fun a b => decide ((if a = 0 then i else j) < (if b = 0 then i else j))
      refine wpAny_pure ⟨plainId_quiet PySem.F.plain_min_loop _, codeAny_min_loop_firstK (J := fun s' => ∃ H', L2.Inv (deep X) pins σ H' s' ∧ Same H H' ∧ ∀ b ∈ [T + 2, I0, T], FpOk (deep X) pins H' b)
        (V := fun a v _ => ∃ t, v = .int (if a = 0 then i else j) t) (bt := bt) Wk s2.heap.objs.size hSf ?_ [] (by show 0 < 2; decide) ⟨H, I3, Same.refl H, fun b hb => fp b ?_⟩ st3 (by rw [sz2]; exact hS) ?_⟩
      · rw [sz2]
        refine ⟨fun s' s'' hJ m => ?_, fun a v s' s'' hv _ => hv, fun a v s' ob Q' E' ha hP hJ hst hSo hQ => ?_, fun a b ka kb s' Q' E' hJ ha hb hQ => ?_⟩
        · obtain ⟨H', I', e', f'⟩ := hJ
          exact ⟨H', inv_moved I' (ch := [T + 2, I0]) (fun b hb => f' b (by
            rcases List.mem_cons.mp hb with z | z
            · rw [z]; exact List.mem_cons_self
            · have z : b = I0 := by simpa using z
              rw [z]; exact List.mem_cons_of_mem _ List.mem_cons_self)) m, e', f'⟩
        · obtain ⟨H', I', e', f'⟩ := hJ
          have hitem : ∃ xv dv, RelV xv v ∧ Dp X.K (hid H' Z) xv dv ∧ sem [dv] = .ok (.int (if a = 0 then i else j)) := by
            have ha2 : a = 0 ∨ a = 1 := by
              have : a < 2 := ha
              omega
            rcases ha2 with rfl | rfl
            · have : u1 = v := Option.some.inj hP
              subst this
              exact ⟨x, d, r1, dp_same (hid_mono e') hx, q1⟩
            · have : u2 = v := Option.some.inj hP
              subst this
              exact ⟨y, e, r2, dp_same (hid_mono e') hy, q2⟩
          obtain ⟨xv, dv, rx, hdv, hsem⟩ := hitem
          have nst : ∀ b ∈ [T + 2, I0, T], b ∉ frs X.stack := fun b hb => show b ∉ frs (deep X).stack from fp_stack I' (f' b hb)
          refine wpAny_call (codeAny_mono (F.run X.A.in1 X.stack s' H' ⟨[v], []⟩ [v] [xv] (fun w' H'' => w' = .int (if a = 0 then i else j) ∧ Same H' H'') E0 hr.in1 I'.env0 (by
            have q := hb s' [v] I'.kIn rfl
            rw [List.append_nil] at q
            exact q) (.cons rx .nil) ⟨rfl, Z, [dv], hd.mono e', .cons hdv .nil, by
              rw [hsem]
              exact fun w' H'' e'' hw => by cases hw; exact ⟨rfl, e''⟩⟩) fun r s'' hq => ?_)
          cases r with
          | error er => exact False.elim hq
          | ok fl =>
            cases fl with
            | next => exact False.elim hq
            | brk => exact False.elim hq
            | cont => exact False.elim hq
            | ret u =>
              obtain ⟨w', H'', os, bare, un, hok, rw', rfl, e''⟩ := hq
              obtain ⟨t, rfl⟩ := rw'
              have keepU : ∀ b ob, b ∈ [T + 2, I0, T] → s'.heap.get? b = some ob → s''.heap.get? b = some ob := fun b ob hb q => un.keep b ob q (f' b hb).1 (nst b hb) (by simp)
              have I'' : L2.Inv (deep X) pins σ H'' s'' := I'.call' (ch := []) os un hok bare (fun b z => absurd z (by simp))
              have hst' : ∃ o1, s'.heap.get? I0 = some o1 := by obtain ⟨o1, q, _⟩ := hst.1; exact ⟨o1, q⟩
              refine hQ _ s'' ⟨H'', I'', e'.trans e'', fun b hb => ?_⟩ ⟨hst.1.at fun ob q => keepU I0 ob (by simp) q, ?_⟩ (keepU _ _ (by simp) hSo) ⟨t, rfl⟩ fun _ _ z => z
              · obtain ⟨g0, g1⟩ := f' b hb
                have hex : ∃ ob, s'.heap.get? b = some ob := by
                  simp only [List.mem_cons, List.not_mem_nil, or_false] at hb
                  rcases hb with z | z | z
                  · subst z; exact ⟨_, hSo⟩
                  · subst z; exact hst'
                  · subst z; obtain ⟨o1, q, _⟩ := hst.2; exact ⟨o1, q⟩
                obtain ⟨ob, q⟩ := hex
                exact ⟨un.free b ob q g0 (by simp), g1⟩
              · obtain ⟨o1, q, c1, n1, d1⟩ := hst.2
                exact ⟨o1, keepU T o1 (by simp) q, c1, n1, d1⟩
        · obtain ⟨t1, rfl⟩ := ha
          obtain ⟨t2, rfl⟩ := hb
          exact PySem.P.lt_int hQ
      · rcases List.mem_cons.mp hb with z | z
        · rw [z]; exact Nat.le_add_right _ _
        · rcases List.mem_cons.mp z with z | z
          · rw [z, e2']; exact Nat.le_add_right _ _
          · have z : b = T := by simpa using z
            rw [z]; exact Nat.le_refl _
      · intro v s' hP hJ
        obtain ⟨H', I', e', f'⟩ := hJ
        have hb1 : argBest bt ((#[u1, u2] : Array Value).size - 1) = if j < i then 1 else 0 := by
          show (if bt 1 0 = true then 1 else 0) = _
          have : bt 1 0 = decide (j < i) := rfl
          rw [this]
          by_cases hij : j < i
          · rw [if_pos (decide_eq_true hij), if_pos hij]
          · rw [if_neg (by rw [decide_eq_false hij]; exact Bool.false_ne_true), if_neg hij]
        rw [hb1] at hP
        by_cases hij : j < i
        · rw [if_pos hij] at hP o
          have : u2 = v := Option.some.inj hP
          subst this
          exact ⟨y, H', inv_undeep I', r2, o y H' e' (dp_same (hid_mono e') hy)⟩
        · rw [if_neg hij] at hP o
          have : u1 = v := Option.some.inj hP
          subst this
          exact ⟨x, H', inv_undeep I', r1, o x H' e' (dp_same (hid_mono e') hx)⟩
theorem ex_min2K {X : Cx} {W : WX} {Cl : Nat → Addr} {k : Nat} {f : Addr} {fd : FuncData} {p y : Str} {sem : Sem1} {a b : Expr} {ca cb : CE} {pn pf kpos pos : Pos} (hc : X.calm = true) (F : FnOk X.prog X.w X.K X.mg X.base CX0 k f fd [p] (spF X.K Cl 1 sem)) (hr : Room (k + 1) X.A) (hb : Binds X.K fd [p] [])
    (hg : Gl X "min") (hm : X.mg "min" = none) (hgf : Gl X y) (hmf : X.mg y = some (.ref f)) (ha : Ex X W a ca) (hbb : Ex X W b cb) (hd : (y == ("__debug__" : Str)) = false)
    (s1 : starEach [a, b] X.env = (false, eval a X.env) :: starEach [b] X.env) (s2 : starEach [b] X.env = (false, eval b X.env) :: starEach [] X.env)
    (hK : ∀ r t tk, CallRK X (.builtin "min") [Str.ofString "key"] r → PA X [a, b] t → PK X [⟨some "key", .Name y pf, kpos⟩] tk → PE X (.Call (.Name "min" pn) [a, b] [⟨some "key", .Name y pf, kpos⟩] pos) (tCKw r t tk)) :
    Ex X W (.Call (.Name "min" pn) [a, b] [⟨some "key", .Name y pf, kpos⟩] pos) (c2 (gmin2K sem) ca cb) :=
  ⟨PE_weak (hK _ _ _ (c_min2K hc F hr hb) (pa_cons ha.run (pa_cons hbb.run pa_nil s2) s1) (pk_cons (pe_glob (v := .ref f) hgf hmf rfl hd) pk_nil)) fun σ H Q ⟨Z, ρ, hd, hr, ho⟩ =>
    seqE hd hr ho fun d v H1 e1 d1 r1 hv o1 => seqE d1 r1 o1 fun d' v' H2 e2 d2 r2 hv' o2 => ⟨Z, v, v', d, d', rfl, rfl, d2, dp_same (hid_mono e2) hv, hv', o2⟩⟩

theorem args_max2k (a b v : Value) : argsOk "max" ⟨[a, b], [(Str.ofString "key", v)]⟩ := by unfold argsOk; kernel_rfl
def gmax2K (sem : Sem1) : D → D → R D := fun d e => match sem [d], sem [e] with
  | .ok (.int i), .ok (.int j) => .ok (if i < j then e else d)
  | _, _ => .bad
def rmax2K (K : PySem.W.Frag) (W : WX) (f : Addr) (sem : Sem1) : List V → List V → Hp → VK → Prop := fun xs zs H Q => ∃ Z x y d e, xs = [x, y] ∧ zs = [.ref f] ∧ Dom H Z ∧ Dp K (hid H Z) x d ∧ Dp K (hid H Z) y e ∧ OutE K W H Z (gmax2K sem d e) Q
set_option maxHeartbeats 1000000 in
theorem c_max2K {X : Cx} {W : WX} {Cl : Nat → Addr} {k : Nat} {f : Addr} {fd : FuncData} {p : Str} {sem : Sem1} (hc : X.calm = true) (F : FnOk X.prog X.w X.K X.mg X.base CX0 k f fd [p] (spF X.K Cl 1 sem)) (hr : Room (k + 1) X.A) (hb : Binds X.K fd [p] []) :
    CallRK X (.builtin "max") [Str.ofString "key"] (rmax2K X.K W f sem) := by
  intro pins s σ H xs zs us ws Q I rv rz h
  obtain ⟨Z, x, y, d, e, rfl, rfl, hd, hx, hy, o⟩ := h
  obtain ⟨u1, u2, rfl, r1, r2⟩ := vals2 rv
  rw [Vals.ref1 rz]
  unfold gmax2K at o
  cases q1 : sem [d] with
  | exc c => rw [q1] at o; exact o.elim
  | bad => rw [q1] at o; exact o.elim
  | ok k1 =>
    rw [q1] at o
    cases q2 : sem [e] with
    | exc c => rw [q2] at o; cases k1 <;> exact o.elim
    | bad => rw [q2] at o; cases k1 <;> exact o.elim
    | ok k2 =>
      rw [q2] at o
      have e1 : ∃ i, k1 = .int i := by cases k1 <;> first | exact ⟨_, rfl⟩ | exact o.elim
      obtain ⟨i, rfl⟩ := e1
      have e2 : ∃ j, k2 = .int j := by cases k2 <;> first | exact ⟨_, rfl⟩ | exact o.elim
      obtain ⟨j, rfl⟩ := e2
      dsimp only at o
      have hname : (toString "max" ++ toString ".loop" : String) = "max.loop" := by decide
      show wpAny (model X.prog X.w) X.A (call (.builtin "max") [u1, u2] [(Str.ofString "key", .ref f)]) _ _ s
      refine kmk_tree PySem.F.kind_max PySem.F.plain_max PySem.F.entry_max (args_max2k u1 u2 (.ref f)) ?_
      show wpAny _ X.A.in1 (Builtin.Builtins.bindParams "max" ["key", "default"] 0 ⟨[], [(Str.ofString "key", .ref f)]⟩ >>= _) _ _ s
      refine wpAny_bind (wpAny_of_eq (show Builtin.Builtins.bindParams "max" ["key", "default"] 0 ⟨[], [(Str.ofString "key", .ref f)]⟩ = pure [some (.ref f), none] from rfl) ?_)
      show wpAny _ X.A.in1 (newTuple [u1, u2] >>= _) _ _ s
      refine wpAny_bind (wpAny_newObj_type ?_)
      generalize hT : s.heap.objs.size = T
      have hTup : (s.heap.push { cls := .type "tuple", data := .seq [u1, u2].toArray }).IsTuple T #[u1, u2] := ⟨_, by rw [← hT]; exact Heap.get?_push_size _ rfl, rfl, _, rfl⟩
      refine wpAny_bind (PySem.W.iter_tupleW (I.ok.hd hc) hTup fun s2 e2 Wk st0 hfp hwr kp => ?_)
      have sz1 : (s.heap.push { cls := .type "tuple", data := .seq [u1, u2].toArray }).objs.size = T + 1 := by rw [Heap.size_push, hT]
      generalize hI0 : (s.heap.push { cls := .type "tuple", data := .seq [u1, u2].toArray }).objs.size = I0 at *
      have sz2 : s2.heap.objs.size = T + 2 := by rw [e2]; show (Heap.push _ _).objs.size = _; rw [Heap.size_push, hI0, sz1]
      have kp2 : ∀ b ob, s.heap.get? b = some ob → s2.heap.get? b = some ob := fun b ob q => kp b ob (Heap.get?_push_of_some _ q)
      refine wpAny_bind (wpAny_newObj_type ?_)
      rw [hname]
      generalize hs3 : ({ s2 with heap := s2.heap.push { cls := .type "list", data := .seq ([] : List Value).toArray } } : Shared) = s3
      have h3 : s3.heap = s2.heap.push { cls := .type "list", data := .seq ([] : List Value).toArray } := by rw [← hs3]
      have kp3 : ∀ b ob, s.heap.get? b = some ob → s3.heap.get? b = some ob := fun b ob q => by rw [h3]; exact Heap.get?_push_of_some _ (kp2 b ob q)
      have I3 : L2.Inv (deep X) pins σ H s3 := by
        have q := (inv_deep I).kept (h' := s3.heap) (t' := s.toks) kp3
        have e3 : ({ s with heap := s3.heap, toks := s.toks } : Shared) = s3 := by rw [← hs3, e2]
        rw [e3] at q
        exact q
      have fp : ∀ b, T ≤ b → FpOk (deep X) pins H b := fun b hb => (inv_deep I).fpOk (by rw [hT]; exact hb) (I.hok.fresh (by rw [hT]; exact hb))
      have e2' : I0 = T + 1 := sz1
      have hS : s3.heap.get? (T + 2) = some { cls := .type "list", data := .seq #[] 0 } := by rw [h3, ← sz2]; exact Heap.get?_push_size _ rfl
      have hSf : s2.heap.objs.size ∉ [I0, T] := fun hm => Nat.lt_irrefl _ (hfp _ hm)
      have st3 : s3.heap.IsTupleIter I0 T 0 ∧ s3.heap.IsTuple T #[u1, u2] := by
        rw [h3]
        exact ⟨st0.1.at fun ob q => Heap.get?_push_of_some _ q, st0.2.push _⟩
      let bt : Nat → Nat → Bool := fun a b => decide ((if a = 0 then i else j) > (if b = 0 then i else j))
      refine wpAny_pure ⟨plainId_quiet PySem.F.plain_max_loop _, codeAny_max_loop_firstK (J := fun s' => ∃ H', L2.Inv (deep X) pins σ H' s' ∧ Same H H' ∧ ∀ b ∈ [T + 2, I0, T], FpOk (deep X) pins H' b)
        (V := fun a v _ => ∃ t, v = .int (if a = 0 then i else j) t) (bt := bt) Wk s2.heap.objs.size hSf ?_ [] (by show 0 < 2; decide) ⟨H, I3, Same.refl H, fun b hb => fp b ?_⟩ st3 (by rw [sz2]; exact hS) ?_⟩
      · rw [sz2]
        refine ⟨fun s' s'' hJ m => ?_, fun a v s' s'' hv _ => hv, fun a v s' ob Q' E' ha hP hJ hst hSo hQ => ?_, fun a b ka kb s' Q' E' hJ ha hb hQ => ?_⟩
        · obtain ⟨H', I', e', f'⟩ := hJ
          exact ⟨H', inv_moved I' (ch := [T + 2, I0]) (fun b hb => f' b (by
            rcases List.mem_cons.mp hb with z | z
            · rw [z]; exact List.mem_cons_self
            · have z : b = I0 := by simpa using z
              rw [z]; exact List.mem_cons_of_mem _ List.mem_cons_self)) m, e', f'⟩
        · obtain ⟨H', I', e', f'⟩ := hJ
          have hitem : ∃ xv dv, RelV xv v ∧ Dp X.K (hid H' Z) xv dv ∧ sem [dv] = .ok (.int (if a = 0 then i else j)) := by
            have ha2 : a = 0 ∨ a = 1 := by
              have : a < 2 := ha
              omega
            rcases ha2 with rfl | rfl
            · have : u1 = v := Option.some.inj hP
              subst this
              exact ⟨x, d, r1, dp_same (hid_mono e') hx, q1⟩
            · have : u2 = v := Option.some.inj hP
              subst this
              exact ⟨y, e, r2, dp_same (hid_mono e') hy, q2⟩
          obtain ⟨xv, dv, rx, hdv, hsem⟩ := hitem
          have nst : ∀ b ∈ [T + 2, I0, T], b ∉ frs X.stack := fun b hb => show b ∉ frs (deep X).stack from fp_stack I' (f' b hb)
          refine wpAny_call (codeAny_mono (F.run X.A.in1 X.stack s' H' ⟨[v], []⟩ [v] [xv] (fun w' H'' => w' = .int (if a = 0 then i else j) ∧ Same H' H'') E0 hr.in1 I'.env0 (by
            have q := hb s' [v] I'.kIn rfl
            rw [List.append_nil] at q
            exact q) (.cons rx .nil) ⟨rfl, Z, [dv], hd.mono e', .cons hdv .nil, by
              rw [hsem]
              exact fun w' H'' e'' hw => by cases hw; exact ⟨rfl, e''⟩⟩) fun r s'' hq => ?_)
          cases r with
          | error er => exact False.elim hq
          | ok fl =>
            cases fl with
            | next => exact False.elim hq
            | brk => exact False.elim hq
            | cont => exact False.elim hq
            | ret u =>
              obtain ⟨w', H'', os, bare, un, hok, rw', rfl, e''⟩ := hq
              obtain ⟨t, rfl⟩ := rw'
              have keepU : ∀ b ob, b ∈ [T + 2, I0, T] → s'.heap.get? b = some ob → s''.heap.get? b = some ob := fun b ob hb q => un.keep b ob q (f' b hb).1 (nst b hb) (by simp)
              have I'' : L2.Inv (deep X) pins σ H'' s'' := I'.call' (ch := []) os un hok bare (fun b z => absurd z (by simp))
              have hst' : ∃ o1, s'.heap.get? I0 = some o1 := by obtain ⟨o1, q, _⟩ := hst.1; exact ⟨o1, q⟩
              refine hQ _ s'' ⟨H'', I'', e'.trans e'', fun b hb => ?_⟩ ⟨hst.1.at fun ob q => keepU I0 ob (by simp) q, ?_⟩ (keepU _ _ (by simp) hSo) ⟨t, rfl⟩ fun _ _ z => z
              · obtain ⟨g0, g1⟩ := f' b hb
                have hex : ∃ ob, s'.heap.get? b = some ob := by
                  simp only [List.mem_cons, List.not_mem_nil, or_false] at hb
                  rcases hb with z | z | z
                  · subst z; exact ⟨_, hSo⟩
                  · subst z; exact hst'
                  · subst z; obtain ⟨o1, q, _⟩ := hst.2; exact ⟨o1, q⟩
                obtain ⟨ob, q⟩ := hex
                exact ⟨un.free b ob q g0 (by simp), g1⟩
              · obtain ⟨o1, q, c1, n1, d1⟩ := hst.2
                exact ⟨o1, keepU T o1 (by simp) q, c1, n1, d1⟩
        · obtain ⟨t1, rfl⟩ := ha
          obtain ⟨t2, rfl⟩ := hb
          exact PySem.P.gt_int hQ
      · rcases List.mem_cons.mp hb with z | z
        · rw [z]; exact Nat.le_add_right _ _
        · rcases List.mem_cons.mp z with z | z
          · rw [z, e2']; exact Nat.le_add_right _ _
          · have z : b = T := by simpa using z
            rw [z]; exact Nat.le_refl _
      · intro v s' hP hJ
        obtain ⟨H', I', e', f'⟩ := hJ
        have hb1 : argBest bt ((#[u1, u2] : Array Value).size - 1) = if i < j then 1 else 0 := by
          show (if bt 1 0 = true then 1 else 0) = _
          have : bt 1 0 = decide (i < j) := rfl
          rw [this]
          by_cases hij : i < j
          · rw [if_pos (decide_eq_true hij), if_pos hij]
          · rw [if_neg (by rw [decide_eq_false hij]; exact Bool.false_ne_true), if_neg hij]
        rw [hb1] at hP
        by_cases hij : i < j
        · rw [if_pos hij] at hP o
          have : u2 = v := Option.some.inj hP
          subst this
          exact ⟨y, H', inv_undeep I', r2, o y H' e' (dp_same (hid_mono e') hy)⟩
        · rw [if_neg hij] at hP o
          have : u1 = v := Option.some.inj hP
          subst this
          exact ⟨x, H', inv_undeep I', r1, o x H' e' (dp_same (hid_mono e') hx)⟩
theorem ex_max2K {X : Cx} {W : WX} {Cl : Nat → Addr} {k : Nat} {f : Addr} {fd : FuncData} {p y : Str} {sem : Sem1} {a b : Expr} {ca cb : CE} {pn pf kpos pos : Pos} (hc : X.calm = true) (F : FnOk X.prog X.w X.K X.mg X.base CX0 k f fd [p] (spF X.K Cl 1 sem)) (hr : Room (k + 1) X.A) (hb : Binds X.K fd [p] [])
    (hg : Gl X "max") (hm : X.mg "max" = none) (hgf : Gl X y) (hmf : X.mg y = some (.ref f)) (ha : Ex X W a ca) (hbb : Ex X W b cb) (hd : (y == ("__debug__" : Str)) = false)
    (s1 : starEach [a, b] X.env = (false, eval a X.env) :: starEach [b] X.env) (s2 : starEach [b] X.env = (false, eval b X.env) :: starEach [] X.env)
    (hK : ∀ r t tk, CallRK X (.builtin "max") [Str.ofString "key"] r → PA X [a, b] t → PK X [⟨some "key", .Name y pf, kpos⟩] tk → PE X (.Call (.Name "max" pn) [a, b] [⟨some "key", .Name y pf, kpos⟩] pos) (tCKw r t tk)) :
    Ex X W (.Call (.Name "max" pn) [a, b] [⟨some "key", .Name y pf, kpos⟩] pos) (c2 (gmax2K sem) ca cb) :=
  ⟨PE_weak (hK _ _ _ (c_max2K hc F hr hb) (pa_cons ha.run (pa_cons hbb.run pa_nil s2) s1) (pk_cons (pe_glob (v := .ref f) hgf hmf rfl hd) pk_nil)) fun σ H Q ⟨Z, ρ, hd, hr, ho⟩ =>
    seqE hd hr ho fun d v H1 e1 d1 r1 hv o1 => seqE d1 r1 o1 fun d' v' H2 e2 d2 r2 hv' o2 => ⟨Z, v, v', d, d', rfl, rfl, d2, dp_same (hid_mono e2) hv, hv', o2⟩⟩
end PL

set_option Elab.async false
set_option linter.all false
set_option maxRecDepth 100000
set_option maxHeartbeats 4000000
/-! PL: calls by counted arguments. -/
namespace PL
open PySem PySem.Spec PyProof.Rows L2
theorem u65 {k : Nat} {A : Around} (r : Room k A) : A.units + 65 < cLine := by
  have := r.un
  omega
def FUEL : Nat := 100000
theorem arl_nil (ρ : Env) (ds : List D) (h : aNil ρ = .ok ds) : ds.length = 0 := by cases h; rfl
theorem arl_cons {c : CE} {cs : Env → R (List D)} {n : Nat} (hs : ∀ ρ ds, cs ρ = .ok ds → ds.length = n) (ρ : Env) (ds : List D) (h : aCons c cs ρ = .ok ds) : ds.length = n + 1 := by
  unfold aCons at h
  cases q : c ρ with
  | exc x => rw [q] at h; cases h
  | bad => rw [q] at h; cases h
  | ok d =>
    rw [q, R.bind_ok] at h
    cases q2 : cs ρ with
    | exc x => rw [q2] at h; cases h
    | bad => rw [q2] at h; cases h
    | ok es =>
      rw [q2, R.bind_ok] at h
      cases h
      rw [List.length_cons, hs ρ es q2]
section
variable {X : Cx} {W : WX} {e : Expr} {es : List Expr} {p pos : Pos}
theorem ex_callN {Cl : Nat → Addr} {k : Nat} {f : Addr} {fd : FuncData} {ps : List Str} {x : Str} {n : Nat} {sem : Sem1} {cs : Env → R (List D)}
    (F : FnOk X.prog X.w X.K X.mg X.base CX0 k f fd ps (spF X.K Cl n sem)) (hr : Room k X.A) (hg : Gl X x) (hm : X.mg x = some (.ref f)) (hk : PySem.W.keepIn X.K (.ref f) = true) (hb : Binds X.K fd ps [])
    (ha : Ar X W (e :: es) cs) (hl : ∀ ρ ds, cs ρ = .ok ds → ds.length = n) (hdb : (x == ("__debug__" : Str)) = false := by decide) (he : starEach (e :: es) X.env = (false, eval e X.env) :: starEach es X.env := by rfl) (hpl : (backTo pos (starEach es X.env)).any (·.1) = false := by rfl) :
    Ex X W (.Call (.Name x p) (e :: es) [] pos) (cA (pureS sem) cs) :=
  ⟨PE_weak (pe_call F hr hg hm hk hb .nil pass0 ha.run hdb he hpl) fun σ H Q ⟨Z, ρ, hd, hr', ho⟩ => by
    refine ⟨Z, ρ, hd, hr', ?_⟩
    unfold cA at ho
    cases hc : cs ρ with
    | ok ds =>
      rw [hc] at ho
      refine fun vs H' e' hv => ?_
      show spF X.K Cl n sem (vs ++ []) H' Q E0
      rw [List.append_nil]
      refine ⟨by rw [dpa_length hv]; exact hl ρ ds hc, Z, ds, hd.mono e', hv, ?_⟩
      have ho := OutE.mono e' ho
      unfold pureS at ho
      rw [R.bind_ok] at ho
      split at ho
      · rename_i d hd'
        rw [hd']
        exact ho
      · exact ho.elim
    | exc x => rw [hc] at ho; exact ho
    | bad => rw [hc] at ho; exact ho⟩
end
end PL

set_option Elab.async false
set_option linter.all false
set_option maxRecDepth 100000
set_option maxHeartbeats 4000000
/-! PLX: len(set(points)). -/
namespace PL
open PySem PySem.Spec PyProof.Rows L2
/-- a set without members, as it is made -/
abbrev mt (w : World) : Obj := { cls := .type "set", dict := none, data := .set #[] 0 (.fresh 0 0 (!w.params.followText "set-order")) }
section
variable {P : Program} {w : World} {A : Around} {E : Value → Shared → Prop} {s : Shared}
set_option maxRecDepth 100000 in
/-- set(t), t a tuple of tuples of ints -/
theorem set_of_tup {l : Addr} {items : Array Value} (ks : List (Addr × List Int)) {Q : Value → Shared → Prop} (hh : A.handled = none) (hl : IsTup s.heap l items) (hit : items.toList = ks.map fun p => Value.ref p.1)
    (hk : ∀ p ∈ ks, IsT P w s.heap p.2 p.1) (hfew : ks.length < 64) (hu : A.units + 3 < cLine)
    (h : ∀ (h' : Heap) (tk : Nat) L es ep t, SetTR P w h' s.heap.objs.size L es ep t → Got ks ks.length L → (∀ b o, s.heap.get? b = some o → h'.get? b = some o) → Q (.ref s.heap.objs.size) { s with heap := h', toks := tk }) :
    wpAny (model P w) A (call (.type "set") [.ref l]) Q E s := by
  have hisz : items.size = ks.length := by simpa using congrArg List.length hit
  obtain ⟨c, tl, hmro⟩ := F.called_set.mro
  have mk1 := F.called_set.made
  have mk2 := F.called_set.sub
  apply wpAny_call
  apply codeAny_of_tree
  show wpAny _ _ (callAny (.type "set") _) _ _ _
  apply wpAny_pure
  refine ⟨Code.quiet_builtin _ (by decide +kernel), codeAny_builtin F.entry_type_call ?_⟩
  rw [Around.under_plain (weight_type_call_type "set" [.ref l] []) rfl]
  have mk3 := F.called_set.notType
  have mk4 := F.called_set.canCreate
  have mk5 := F.typeCall_set_1 (.ref l)
  repeat (any_goals (first | assumption | wp_step))
  refine codeAny_mono (code_set_led1 (.ref l) (E := E) (Q₁ := fun x t => x = .ref s.heap.objs.size ∧ t = { s with heap := s.heap.push (mt w) }) ⟨rfl, rfl⟩) fun r s₁ hr => ?_
  cases r with
  | error e => exact hr
  | ok fl =>
    cases fl with
    | ret obj =>
      obtain ⟨rfl, rfl⟩ := hr
      have hS : (s.heap.push (mt w)).get? s.heap.objs.size = some (mt w) := Heap.get?_push_size _ rfl
      have hT : Shared.TypeIs { s with heap := s.heap.push (mt w) } (.ref s.heap.objs.size) "set" := ⟨_, hS, rfl⟩
      have in1 := F.called_set.init.lookup
      have in2 := F.called_set.init.bind (.ref s.heap.objs.size)
      repeat (any_goals (first | assumption | wp_step))
      refine codeAny_mono (codeAny_call_builtin (R := wants (fun r t2 => r = .none ∧ ∃ h' tk L es ep t, t2 = { s with heap := h', toks := tk } ∧ SetTR P w h' s.heap.objs.size L es ep t ∧ Got ks ks.length L ∧ (∀ b o, s.heap.get? b = some o → h'.get? b = some o)) E)
        F.called_set.init.plain F.entry_set_init (check_set_init_1 hT ?_)) fun r₂ s₂ hr₂ => ?_
      · have hl0 := hl
        obtain ⟨ol, hol, hcl, nl, hdl⟩ := hl
        obtain ⟨ocls, odict, odata, oslots⟩ := ol
        simp only at hcl hdl
        subst hcl; subst hdl
        have hol' : (s.heap.push (mt w)).get? l = some { cls := .type "tuple", dict := odict, data := .seq items nl, slots := oslots } := Heap.get?_push_of_some _ hol
        have sb1 := F.sub_tuple_set
        have sb2 := F.sub_tuple_frozenset
        have nd : (Value.type "tuple" == Value.type "dict") = false := by decide
        have hl1 : (s.heap.push (mt w)).IsTuple l items := ⟨_, hol', rfl, nl, rfl⟩
        unfold Builtin.«set.__init__» noKeywords Builtin.Frozenset.updateFrom
        generalize hPI : pyIter = PI
        wp_walk
        subst hPI
        refine wpAny_pyIter_tuple hl1 ?_
        refine wpAny_bind (wpAny_runValue ?_)
        have hlS : l < s.heap.objs.size := Heap.lt_size hol
        have quiet3 : A.in1.in1.in1.handled = none := by simp [hh]
        have far : l ≠ (s.heap.push (mt w)).objs.size := by
          rw [Heap.size_push]; exact Nat.ne_of_lt (Nat.lt_succ_of_lt hlS)
        have apart : s.heap.objs.size ∉ [(s.heap.push (mt w)).objs.size, l] := by
          rw [Heap.size_push]
          intro z
          rcases List.mem_cons.mp z with z | z
          · exact absurd z (Nat.ne_of_lt (Nat.lt_succ_self _))
          · exact absurd (List.mem_singleton.mp z) (Nat.ne_of_gt hlS)
        have each : ∀ (i : Nat) (v : Value), items[i]? = some v → ∃ p, ks[i]? = some p ∧ v = .ref p.1 := fun i v hv => by
          have q : items.toList[i]? = some v := by rw [Array.getElem?_toList]; exact hv
          rw [hit, List.getElem?_map] at q
          obtain ⟨p, h1, h2⟩ := Option.map_eq_some_iff.mp q
          exact ⟨p, h1, h2.symm⟩
        have none_of : ∀ b, s.heap.objs.size ≤ b → s.heap.get? b = none := fun b hb => by
          cases q : s.heap.get? b with
          | none => rfl
          | some o => exact absurd (Nat.lt_of_lt_of_le (Heap.lt_size q) hb) (Nat.lt_irrefl _)
        refine set_update_tups ((Walks.tuple quiet3 _ l far items).toS) s.heap.objs.size apart ks hisz hfew each s.heap hk (none_of _ (Nat.le_refl _)) (fun b hb => none_of b (by
            rw [List.mem_singleton.mp hb, Heap.size_push]
            exact Nat.le_succ _)) hu (items.size - 0) 0 _ (by omega) (Nat.zero_le _) ⟨⟨_, Heap.get?_push_size _ rfl, rfl, rfl⟩, (hl1.push _)⟩ (fun b o e => Heap.get?_push_of_some _ (Heap.get?_push_of_some _ e)) ?hS0 ?hR
        case hS0 =>
          have g : ((s.heap.push (mt w)).push { cls := .type "tuple_iterator", data := .fields #[.ref l, .int 0 0] }).get? s.heap.objs.size = some (mt w) := Heap.get?_push_of_some _ hS
          exact ⟨[], #[], 0, _, setTR_fresh g, Got.zero ks⟩
        case hR =>
          intro t2 L es ep t hm hS' g' hkp
          obtain ⟨h', g2, d', tk', os'⟩ := t2
          obtain rfl : g2 = s.gens := hm.gens
          obtain rfl : d' = s.drawn := hm.drawn
          obtain rfl : os' = s.os := hm.os
          show wpAny _ _ _ _ _ _
          apply wpAny_pure
          show wpAny _ _ (ret Value.none) _ _ _
          rw [hisz] at g'
          exact wpAny_pure ⟨rfl, h', tk', L, es, ep, t, rfl, hS', g', hkp⟩
      · cases r₂ with
        | error e => exact hr₂
        | ok fl₂ =>
          cases fl₂ with
          | ret r =>
            obtain ⟨rfl, h', tk, L, es, ep, t, rfl, hS', g', hk'⟩ := hr₂
            repeat (any_goals (first | assumption | wp_step))
            exact h _ _ _ _ _ _ hS' g' hk'
          | _ => exact hr₂.elim
    | _ => exact hr.elim
end
section
variable {X : Cx} {W : WX}
def tLenSetT (K : PySem.W.Frag) (ta : TE) : TE := fun σ H Q => ta σ H fun x H1 => ∃ (l : Addr) (ks : List (Addr × List Int)), x = V.ref l ∧ (SqL K H1 l (ks.map fun p => V.ref p.1) ∨ SqT K H1 l (ks.map fun p => V.ref p.1)) ∧ (∀ p ∈ ks, SqT K H1 p.1 (p.2.map V.int)) ∧ ks.length < 64 ∧
  ∀ L : List (List Int), L.Nodup → (∀ k, k ∈ L ↔ k ∈ ks.map (·.2)) → Q (.int L.length) H1
theorem pe_lenSetT {a : Expr} {ta : TE} {p p2 q pos : Pos} (hc : X.calm = true) (hu : X.A.units + 64 < cLine) (hg : Gl X "len") (hm : X.mg "len" = none) (hg2 : Gl X "set") (hm2 : X.mg "set" = none) (ha : PE X a ta)
    (na : starEach [a] X.env = (false, eval a X.env) :: starEach [] X.env := by rfl) : PE X (.Call (.Name "len" p) [.Call (.Name "set" p2) [a] [] q] [] pos) (tLenSetT X.K ta) := by
  constructor
  intro pins s σ H Q I h
  refine Call_ (ld_blt I hg hm PySem.boot_len ?_)
  refine PyProof.Rows.callWith_builtin1 (PyProof.Rows.args_cons ?_ rfl) rfl rfl
  refine Call_ (ld_blt I hg2 hm2 PyProof.Rows.boot_set ?_)
  refine PyProof.Rows.callWith_type1 (PyProof.Rows.args_cons (thn (ha.run pins s σ H _ I h) fun v s1 ⟨x, H1, I1, r1, q1⟩ => PyProof.Rows.args_nil ?_) na) na rfl
  obtain ⟨l, ks, rfl, hq, hks, hlt, q1⟩ := q1
  cases r1
  have fin : ∀ (h' : Heap) (tk : Nat) L es ep t, SetTR X.prog X.w h' s1.heap.objs.size L es ep t → Got ks ks.length L → (∀ b o, s1.heap.get? b = some o → h'.get? b = some o) →
      wpAny (model X.prog X.w) X.A (call (.builtin "len") [.ref s1.heap.objs.size]) (EP X pins σ Q) X.xe { s1 with heap := h', toks := tk } := fun h' tk L es ep t R g k => by
    have I2 : Inv X pins σ H1 { s1 with heap := h', toks := tk } := I1.kept k
    obtain ⟨o, ho, hex, hd⟩ := R.ob
    have hsz := R.size (s := { s1 with heap := h', toks := tk })
    have hfew := R.few
    refine call_len_set ho hex hd (R.fits (s := { s1 with heap := h', toks := tk })) (by omega) ⟨.int ((L.map (·.2)).length : Nat), H1, I2.tok _, ⟨_, by rw [hsz, List.length_map]⟩, q1 _ R.nd fun z => ⟨fun hz => ?_, fun hz => ?_⟩⟩
    · obtain ⟨p, hp, rfl⟩ := List.mem_map.mp hz
      exact List.mem_map.mpr ⟨p, List.mem_of_mem_take (g.sub p hp), rfl⟩
    · obtain ⟨p, hp, rfl⟩ := List.mem_map.mp hz
      exact g.all p (by rw [List.take_length]; exact hp)
  rcases hq with hq | hq
  · obtain ⟨its, rv, pl, hz⟩ := I1.list hq
    refine call_set_tups (P := X.prog) (w := X.w) ks (I1.ok.hd hc) pl.isList (by simpa using refs_of_vals rv) (fun p hp => I1.isT (hks p hp)) hlt (by omega) fun h' tk L es ep t R g k => PyProof.Rows.args_nil ?_
    exact fin h' tk L es ep t R g k
  · obtain ⟨its, rv, pl, hz⟩ := I1.tuple hq
    refine set_of_tup (P := X.prog) (w := X.w) ks (I1.ok.hd hc) pl (by simpa using refs_of_vals rv) (fun p hp => I1.isT (hks p hp)) hlt (by omega) fun h' tk L es ep t R g k => PyProof.Rows.args_nil ?_
    exact fin h' tk L es ep t R g k
/-- how many members -/
def gLenSet : D → R D
  | .list ds => (match asPts ds with
    | some ps => if ps.length < 64 then .ok (.int ps.eraseDups.length) else .bad
    | none => .bad)
  | .tuple ds => (match asPts ds with
    | some ps => if ps.length < 64 then .ok (.int ps.eraseDups.length) else .bad
    | none => .bad)
  | _ => .bad
theorem pts_keys {K : PySem.W.Frag} {H : Hp} : ∀ {xs : List V} {ps : List Pt}, DpAll K H xs (ps.map pt) → ∃ ks : List (Addr × List Int), xs = (ks.map fun p => V.ref p.1) ∧ (∀ p ∈ ks, SqT K H p.1 (p.2.map V.int)) ∧ ks.map (·.2) = ps.map fun p => [p.1, p.2]
  | xs, [], h => by
    cases h
    exact ⟨[], rfl, fun p hp => (by cases hp), rfl⟩
  | xs, p :: ps, h => by
    cases h with
    | cons h1 h2 =>
      obtain ⟨ks, e1, e2, e3⟩ := pts_keys h2
      cases h1 with
      | tup q1 q2 =>
        cases q2 with
        | cons r1 r2 =>
          cases r2 with
          | cons r3 r4 =>
            cases r4
            cases r1
            cases r3
            refine ⟨(_, [p.1, p.2]) :: ks, by rw [e1]; rfl, fun z hz => ?_, by rw [List.map_cons, e3]; rfl⟩
            rcases List.mem_cons.mp hz with e | e
            · subst e; exact q1
            · exact e2 z e
theorem eraseDups_nodup {α : Type} [BEq α] [LawfulBEq α] : ∀ (n : Nat) (l : List α), l.length ≤ n → l.eraseDups.Nodup ∧ ∀ x, x ∈ l.eraseDups ↔ x ∈ l
  | 0, l, h => by
    have : l = [] := List.eq_nil_of_length_eq_zero (by omega)
    subst this
    simp
  | n + 1, [], h => by simp
  | n + 1, y :: l, h => by
    rw [List.eraseDups_cons]
    have hf : (l.filter fun b => !b == y).length ≤ l.length := List.length_filter_le ..
    have ih := eraseDups_nodup n (l.filter fun b => !b == y) (by simp at h; omega)
    refine ⟨List.nodup_cons.mpr ⟨fun h2 => ?_, ih.1⟩, fun x => ?_⟩
    · have := (ih.2 y).mp h2
      simp at this
    · rw [List.mem_cons, List.mem_cons, ih.2 x, List.mem_filter]
      by_cases e : x = y <;> simp [e]
theorem keys_len {ps : List Pt} {L : List (List Int)} (h1 : L.Nodup) (h2 : ∀ k, k ∈ L ↔ k ∈ ps.map fun p => [p.1, p.2]) : L.length = ps.eraseDups.length := by
  have e := eraseDups_nodup ps.length ps (Nat.le_refl _)
  have h3 : (ps.eraseDups.map fun p => [p.1, p.2]).Nodup := by
    rw [List.nodup_iff_pairwise_ne, List.pairwise_map]
    exact e.1.imp fun {a b} h q => h (by
      obtain ⟨a1, a2⟩ := a
      obtain ⟨b1, b2⟩ := b
      simp at q
      simp [q])
  have h4 : L.Perm (ps.eraseDups.map fun p => [p.1, p.2]) := (List.perm_ext_iff_of_nodup h1 h3).mpr fun k => by
    rw [h2 k]
    simp only [List.mem_map, e.2]
  rw [h4.length_eq, List.length_map]
theorem ex_lenSet {e : Expr} {c : CE} {p1 p2 q1 q2 : Pos} (hc : X.calm = true) (hu : X.A.units + 64 < cLine) (hg : Gl X "len") (hm : X.mg "len" = none) (hg2 : Gl X "set") (hm2 : X.mg "set" = none) (he : Ex X W e c) (na : starEach [e] X.env = (false, eval e X.env) :: starEach [] X.env := by rfl) :
    Ex X W (.Call (.Name "len" p1) [.Call (.Name "set" p2) [e] [] q1] [] q2) (c1 gLenSet c) :=
  ⟨PE_weak (pe_lenSetT hc hu hg hm hg2 hm2 he.run na) fun σ H Q ⟨Z, ρ, hd, hr, ho⟩ => seqE hd hr ho fun d v H1 e1 d1 r1 hv o1 => by
    have key : ∀ (l : Addr) (xs : List V) (ds : List D), (SqL X.K (hid H1 Z) l xs ∨ SqT X.K (hid H1 Z) l xs) → DpAll X.K (hid H1 Z) xs ds → OutE X.K W H1 Z (match asPts ds with
        | some ps => if ps.length < 64 then .ok (.int ps.eraseDups.length) else .bad
        | none => .bad) Q → v = .ref l → ∃ (l : Addr) (ks : List (Addr × List Int)), v = V.ref l ∧ (SqL X.K H1 l (ks.map fun p => V.ref p.1) ∨ SqT X.K H1 l (ks.map fun p => V.ref p.1)) ∧ (∀ p ∈ ks, SqT X.K H1 p.1 (p.2.map V.int)) ∧ ks.length < 64 ∧
        ∀ L : List (List Int), L.Nodup → (∀ k, k ∈ L ↔ k ∈ ks.map (·.2)) → Q (.int L.length) H1 := by
      intro l xs ds hs ha ho2 hv2
      cases q : asPts ds with
      | none => rw [q] at ho2; exact ho2.elim
      | some ps =>
        rw [q] at ho2
        dsimp only at ho2
        by_cases h64 : ps.length < 64
        · rw [if_pos h64] at ho2
          have ed := asPts_of q
          subst ed
          obtain ⟨ks, k1, k2, k3⟩ := pts_keys ha
          subst k1
          refine ⟨l, ks, hv2, hs.imp (sql_same hid_same) (sqt_same hid_same), fun z hz => sqt_same hid_same (k2 z hz), ?_, fun L n1 n2 => ?_⟩
          · have := congrArg List.length k3
            rw [List.length_map, List.length_map] at this
            omega
          · rw [k3] at n2
            rw [keys_len n1 n2]
            exact ho2 _ H1 (Same.refl _) (.int _)
        · rw [if_neg h64] at ho2; exact ho2.elim
    cases d with
    | list ds =>
      cases hv with
      | lst z1 z2 => exact key _ _ ds (.inl z1) z2 o1 rfl
    | tuple ds =>
      cases hv with
      | tup z1 z2 => exact key _ _ ds (.inr z1) z2 o1 rfl
    | _ => exact o1.elim⟩
end
end PL

set_option Elab.async false
set_option linter.all false
set_option maxRecDepth 100000
set_option maxHeartbeats 1000000
/-! PE: the law's promise, from its meaning. -/
namespace PL
open PySem PySem.Spec PyProof.Rows L2
theorem law_end {K : PySem.W.Frag} {Cl : Nat → Addr} {m : Sem1} {H : Hp} {a : Addr} {ns : List Int} {E : XK} (h : m [.list (ns.map .int)] = .ok (.bool true)) (hs : SqL K H a (ns.map V.int)) :
    spF K Cl 1 m [.ref a] H (fun v _ => v = .bl true) E := by
  refine ⟨rfl, fun _ => False, [.list (ns.map .int)], fun _ z => z.elim, ?_, ?_⟩
  · have e : Same H (hid H fun _ => False) := fun b o q => hid_mk (fun z => z) q
    refine .cons (.lst (sql_same e hs) ?_) .nil
    clear hs h
    induction ns with
    | nil => exact .nil
    | cons n ns ih => exact .cons (.int n) ih
  · rw [h]
    refine fun v H' _ hv => ?_
    cases hv
    rfl
end PL

set_option Elab.async false
set_option linter.all false
set_option maxRecDepth 100000
set_option maxHeartbeats 4000000
/-! PLE: own exceptions. -/
namespace PL
open PySem PySem.Spec PyProof.Rows L2
/-- W, as HandS tells it -/
def wOf (Cl : Nat → Addr) (W : WX) : L2.WX := fun cls d _ H => ∃ x, cls = .ref (Cl x) ∧ d = none ∧ W x H
def TkW (X : Cx) (Cl : Nat → Addr) (W : WX) : Prop := Takes X (wOf Cl W)
section
variable {P : Program} {w : World} {K : PySem.W.Frag} {mg : Str → Option Value} {base : Heap}
theorem fn_raise {x qual : Str} {st : Stmt} {f : Addr} {fd : FuncData} {N ps : List Str} {k : Nat} {Cl : Nat → Addr} {body : CS} (F : Fun K x qual st f fd) (S : FnScope N ps (defScope st)) (hps : ps.length ≤ N.length)
    (hb : ∀ (cdv : Value) (A : Around) (outer : List PySem.Env) (s : Shared) (H : Hp) (E : XK), Room k (A.deeper (envOfC qual (defScope st) s.heap.objs.size f cdv)) →
      TkW (cxOf (L2.CX P w) P w K mg base N qual (defScope st) f cdv A outer s H E) Cl (fun x H' => E (.ref (Cl x)) none H') →
      Sms (cxOf (L2.CX P w) P w K mg base N qual (defScope st) f cdv A outer s H E) (fun x H' => E (.ref (Cl x)) none H') (defBody st) body) :
    FnOk P w K mg base (L2.CX P w) (k + 1) f fd ps (spF K Cl ps.length (runX N.length body)) := by
  refine F.okX S (fun vs H Q E h => h.1) fun cdv A outer s H vs Q E hr h => ?_
  obtain ⟨hl, Z, ds, hd, hv, ho⟩ := h
  have tk : TkW (cxOf (L2.CX P w) P w K mg base N qual (defScope st) f cdv A outer s H E) Cl (fun x H' => E (.ref (Cl x)) none H') :=
    Takes.imp (takes_of (E := E) rfl rfl rfl rfl) fun c d σ H' hw => by
      obtain ⟨x, rfl, rfl, h⟩ := hw
      exact h
  refine ⟨_, (hb cdv A outer s H E hr tk).run, Z, iniS N.length ds, (rep_start (by omega) hd hv).1, ?_⟩
  have hno := (rep_start (N := N) (by omega) hd hv).2
  have hz : Same H (hid H (Own (L2.start N vs) (iniS N.length ds))) := fun b o e => hid_mk (hno b) e
  unfold runX at ho
  cases q : body (iniS N.length ds) with
  | nx ρ' =>
    rw [q] at ho
    exact fun σ' H' r' e => ho .non H' (hz.trans (e.trans hid_same)) .non
  | rt d =>
    rw [q] at ho
    exact fun v H' e hv' => ho v H' (hz.trans e) hv'
  | exc x =>
    rw [q] at ho
    exact fun H' e => ho H' (hz.trans e)
  | bk ρ' => rw [q] at ho; exact ho.elim
  | ct ρ' => rw [q] at ho; exact ho.elim
  | bad => rw [q] at ho; exact ho.elim
end
section
variable {X : Cx} {W : WX} {e : Expr} {es : List Expr} {p pos : Pos}
/-- a call of a def that may raise -/
theorem ex_callX {Cl : Nat → Addr} {k : Nat} {f : Addr} {fd : FuncData} {ps : List Str} {x : Str} {n : Nat} {sem : Sem1} {cs : Env → R (List D)}
    (F : FnOk X.prog X.w X.K X.mg X.base (L2.CX X.prog X.w) k f fd ps (spF X.K Cl n sem)) (tk : TkW X Cl W) (hr : Room k X.A) (hg : Gl X x) (hm : X.mg x = some (.ref f)) (hk : PySem.W.keepIn X.K (.ref f) = true) (hb : Binds X.K fd ps [])
    (ha : Ar X W (e :: es) cs) (hl : ∀ ρ ds, cs ρ = .ok ds → ds.length = n) (hdb : (x == ("__debug__" : Str)) = false := by decide) (he : starEach (e :: es) X.env = (false, eval e X.env) :: starEach es X.env := by rfl) (hpl : (backTo pos (starEach es X.env)).any (·.1) = false := by rfl) :
    Ex X W (.Call (.Name x p) (e :: es) [] pos) (cA sem cs) :=
  ⟨PE_weak (pe_callS F hr hg hm hk hb (fun σ => passAt tk σ) ha.run hdb he hpl) fun σ H Q ⟨Z, ρ, hd, hr', ho⟩ => by
    refine ⟨Z, ρ, hd, hr', ?_⟩
    unfold cA at ho
    cases hc : cs ρ with
    | ok ds =>
      rw [hc] at ho
      refine fun vs H' e' hv => ?_
      refine ⟨by rw [dpa_length hv]; exact hl ρ ds hc, Z, ds, hd.mono e', hv, ?_⟩
      have ho := OutE.mono e' ho
      rw [R.bind_ok] at ho
      cases q : sem ds with
      | ok d => rw [q] at ho; exact ho
      | exc c => rw [q] at ho; exact fun H2 e2 => ⟨c, rfl, rfl, ho H2 e2⟩
      | bad => rw [q] at ho; exact ho.elim
    | exc x => rw [hc] at ho; exact ho
    | bad => rw [hc] at ho; exact ho⟩
/-- raise X('m'), X an own class without an __init__ -/
def sRaise (x : Nat) : CS := fun _ => .exc x
/-- what the text says of an own class under ValueError -/
structure OwnE (K : PySem.W.Frag) (mg : Str → Option Value) (x : Str) (C : Addr) : Prop where
  g : mg x = some (.ref C)
  q : PySem.W.excIn K C [.type "ValueError", .type "Exception", .type "BaseException", .type "object"] "ValueError.__new__" = true
  k : PySem.W.keepIn K (.ref C) = true
  s : PySem.W.subIn K (.ref C) (.type "BaseException") = some true
  t : PySem.W.typeIn K (.ref C) = some (.type "type")
theorem sm_raise {Cl : Nat → Addr} {x : Str} {n : Nat} {m : Str} {j : Nat} {p p2 cp : Pos} (T : OwnE X.K X.mg x (Cl n)) (hc : X.calm = true) (tk : TkW X Cl W) (hg : Gl X x) (hdb : (x == ("__debug__" : Str)) = false := by decide) :
    Sm X W (.Raise (some (.Call (.Name x p) [.Constant (.str m) j p2] [] cp)) none pos) (sRaise n) :=
  ⟨PS_weak (ps_raise hc tk (pmk_own F.excBase_ValueError T.q T.g T.k (raises_own T.s T.t) hg hdb)) fun D σ H ⟨Z, ρ, r, o⟩ => ⟨n, rfl, rfl, o H hid_same⟩⟩
end
end PL

set_option Elab.async false
set_option linter.all false
set_option maxRecDepth 100000
set_option maxHeartbeats 4000000
/-! PLS: sorted(set(points)). -/
namespace PL
open PySem PySem.Spec PyProof.Rows L2
/-- the point of a key -/
def kp (k : List Int) : Pt := (k.getD 0 0, k.getD 1 0)
theorem kp_inj {k k' : List Int} (h : k.length = 2) (h' : k'.length = 2) (e : kp k = kp k') : k = k' := by
  match k, k', h, h' with
  | [a, b], [c, d], _, _ =>
    unfold kp at e
    simp at e
    simp [e]
def leP (p q : Pt) : Bool := decide (p.1 < q.1 ∨ (p.1 = q.1 ∧ p.2 ≤ q.2))
theorem leP_trans (a b c : Pt) (h1 : leP a b = true) (h2 : leP b c = true) : leP a c = true := by
  unfold leP at *
  simp only [decide_eq_true_eq] at *
  omega
theorem leP_total (a b : Pt) : (leP a b || leP b a) = true := by
  unfold leP
  simp only [Bool.or_eq_true, decide_eq_true_eq]
  omega
theorem leP_anti (a b : Pt) (h1 : leP a b = true) (h2 : leP b a = true) : a = b := by
  unfold leP at *
  simp only [decide_eq_true_eq] at *
  exact Prod.ext (by omega) (by omega)
theorem reads_key {P : Program} {w : World} {h : Heap} {k : List Int} {a : Addr} (x : IsT P w h k a) (h2 : k.length = 2) : Reads h (.ref a) (pt (kp k)) [] := by
  obtain ⟨o, its, n, ho, hc, hd, hi⟩ := x
  match k, h2 with
  | [x, y], _ =>
    have hi' := ints_of_items hi
    generalize hz : its.toList = zs at hi'
    cases hi' with
    | cons _ t r =>
      cases r with
      | cons _ t2 r2 =>
        cases r2
        refine .tuple ho hc hd ?_
        rw [hz]
        exact .cons (.int _ _) (.cons (.int _ _) .nil)
section
variable {P : Program} {w : World} {A : Around} {E : Value → Shared → Prop} {s : Shared} {a : Addr} {L : List (Addr × List Int)} {es : Array (Int × Value)} {ep : Nat} {t : SetTable}
open PySem.W in
theorem each_map_ref : ∀ {L : List (Addr × Pt)} {vs : List Value}, EachIs (fun v (b : Addr × Pt) => v = Value.ref b.1) vs L → vs = L.map fun q => Value.ref q.1
  | [], _, .nil => rfl
  | b :: L, _, .cons h1 h2 => by rw [h1, each_map_ref h2]; rfl
open PySem.W in
theorem map_ref_each : ∀ (L : List (Addr × Pt)), EachIs (fun v (b : Addr × Pt) => v = Value.ref b.1) (L.map fun q => Value.ref q.1) L
  | [] => .nil
  | b :: L => .cons rfl (map_ref_each L)
open PySem.W in
theorem map_each {R : Value → Addr × Pt → Prop} : ∀ (L : List (Addr × Pt)), (∀ b ∈ L, R (.ref b.1) b) → EachIs R (L.map fun q => Value.ref q.1) L
  | [], _ => .nil
  | b :: L, h => .cons (h b (List.mem_cons_self ..)) (map_each L fun c hc => h c (List.mem_cons_of_mem _ hc))
theorem sort_set (R : SetTR P w s.heap a L es ep t) (hh : A.handled = none) (hu : A.units + 64 < cLine) (h2 : ∀ p ∈ L, p.2.length = 2) {Q : Value → Shared → Prop}
    (hQ : ∀ s' p (out : Array Value) (c : Nat) (M : List (Addr × Pt)), (∀ b o, s.heap.get? b = some o → s'.heap.get? b = some o) → s'.gens = s.gens → s'.os = s.os → s.heap.objs.size ≤ p →
      s'.heap.get? p = some (seqObj "list" out c) → out.toList = M.map (fun q => Value.ref q.1) → M.Perm (L.map fun q => (q.1, kp q.2)) → M.Pairwise (fun q r => leP q.2 r.2 = true) → Q (.ref p) s') :
    wpAny (model P w) A (call (.builtin "sorted") [.ref a]) Q E s := by
  obtain ⟨o, ho, hex, hd⟩ := R.ob
  have hsz := R.size
  have hfew := R.few
  apply Calls.call_function_entry kind_sorted plain_sorted entry_sorted (args_sorted1 _)
  unfold Builtin.«sorted»
  refine wpAny_bind (m := checkCount "sorted" 1 1 _) (wpAny_pure ?_)
  refine wpAny_bind (collect_set (A := A.in1) hh ⟨o, ho, hex.1, hd⟩ R.fits (by unfold scanBound; omega) R.tab.ris R.led fun s1 vs k1 hz g1 o1 pm => ?_)
  have hes : es.toList.map (·.2) = (L.map fun q => (q.1, kp q.2)).map fun q => Value.ref q.1 := by
    rw [R.rows]
    unfold rowsOf
    rw [List.map_map, List.map_map]
    rfl
  rw [hes] at pm
  -- the values in their order: the rows in some order
  obtain ⟨M0, e0, p0⟩ : ∃ M0 : List (Addr × Pt), vs = M0.map (fun q => Value.ref q.1) ∧ M0.Perm (L.map fun q => (q.1, kp q.2)) := by
    clear hes hQ
    generalize L.map (fun q => (q.1, kp q.2)) = N at pm
    generalize hN : N.map (fun q => Value.ref q.1) = us at pm
    induction pm generalizing N with
    | nil =>
      have : N = [] := List.map_eq_nil_iff.mp hN
      subst this
      exact ⟨[], rfl, .nil⟩
    | cons x p ih =>
      cases N with
      | nil => cases hN
      | cons n N =>
        rw [List.map_cons] at hN
        injection hN with e1 e2
        obtain ⟨M, f1, f2⟩ := ih N e2
        exact ⟨n :: M, by rw [List.map_cons, ← f1, e1], f2.cons n⟩
    | swap x y l =>
      cases N with
      | nil => cases hN
      | cons n N =>
        cases N with
        | nil => cases hN
        | cons m N =>
          rw [List.map_cons, List.map_cons] at hN
          injection hN with e1 e2
          injection e2 with e2 e3
          exact ⟨m :: n :: N, by rw [List.map_cons, List.map_cons, e1, e2, e3], .swap ..⟩
    | trans p1 p2 ih1 ih2 =>
      obtain ⟨M, f1, f2⟩ := ih2 N hN
      obtain ⟨M', g1, g2⟩ := ih1 M f1.symm
      exact ⟨M', g1, g2.trans f2⟩
  have hvl : vs.length < 64 := by rw [pm.length_eq, List.length_map, List.length_map]; exact hfew
  refine wpAny_bind (wpAny_newList ?_ (by rw [sizeLine_eq]; omega))
  have hoL : (s1.heap.push (seqObj "list" vs.toArray 0)).get? s1.heap.objs.size = some (seqObj "list" vs.toArray 0) := Heap.get?_push_size _ rfl
  have rd : ∀ b ∈ M0, Reads (s1.heap.push (seqObj "list" vs.toArray 0)) (.ref b.1) (pt b.2) [] := fun b hb => by
    obtain ⟨q, hq, e⟩ := List.mem_map.mp (p0.mem_iff.mp hb)
    rw [← e]
    exact reads_key (P := P) (w := w) (isT_keep (R.tup q hq) fun b u e => Heap.get?_push_of_some _ (k1 b u e)) (h2 q hq)
  have srt := PySem.W.list_sort_data (prog := P) (w := w) (A := A.in1) (E := E) (s := { s1 with heap := s1.heap.push (seqObj "list" vs.toArray 0) }) (vs := vs) (bs := M0) (enc := fun b => pt b.2) (R := fun v b => v = Value.ref b.1) (a := s1.heap.objs.size) (n := 0)
    (Q := fun v s2 => v = Value.none ∧ ∃ out : List Value, s2 = { s1 with heap := sortedHeap (s1.heap.push (seqObj "list" vs.toArray 0)) s1.heap.objs.size vs (List.toArray out) } ∧ PySem.W.EachIs (fun v (b : Addr × Pt) => v = Value.ref b.1) out (M0.mergeSort (PySem.W.dataLe false fun b => pt b.2)))
    hoL (by rw [e0]; exact map_ref_each M0) (by rw [e0]; exact map_each M0 fun b hb => ⟨[], (by rw [← e0]; exact rd b hb), List.not_mem_nil⟩)
    (PySem.W.AllAlike.of fun b b' => by unfold pt; simp [PySem.W.alike, PySem.W.alikeAll]) (PySem.W.Sortable.tuples fun b => ⟨_, _, rfl⟩) (by
      have : M0.length = vs.length := by rw [e0, List.length_map]
      rw [sizeLine_eq]; omega) (fun b _ => by rw [depth_pt]; simp only [Around.in1_units]; omega) (fun out _ he => ⟨rfl, out, rfl, he⟩)
  refine wpAny_bind (wpAny_holding (wpAny_mono srt (fun v s2 hv => ?_) fun _ _ z => z))
  obtain ⟨rfl, out, rfl, he⟩ := hv
  obtain ⟨c, hc⟩ := sortedHeap_at (vs := vs) (out := List.toArray out) hoL
  have eo := each_map_ref he
  have hle : PySem.W.dataLe false (fun b : Addr × Pt => pt b.2) = fun p q => leP p.2 q.2 := PySem.W.dataLe_ii (fun b : Addr × Pt => b.2.1) fun b => b.2.2
  rw [hle] at eo
  refine wpAny_pure ⟨_, rfl, hQ { s1 with heap := sortedHeap (s1.heap.push (seqObj "list" vs.toArray 0)) s1.heap.objs.size vs (List.toArray out) } s1.heap.objs.size (List.toArray out) c (M0.mergeSort fun p q => leP p.2 q.2) (fun b u e => ?_) g1 o1 hz hc eo ((List.mergeSort_perm _ _).trans p0) (List.pairwise_mergeSort (le := fun (p q : Addr × Pt) => leP p.2 q.2) (fun a b c => leP_trans a.2 b.2 c.2) (fun a b => leP_total a.2 b.2) _)⟩
  have q := k1 b u e
  have hlt := Heap.lt_size q
  show (sortedHeap (s1.heap.push (seqObj "list" vs.toArray 0)) s1.heap.objs.size vs (List.toArray out)).get? b = some u
  rw [sortedHeap_old (Nat.ne_of_lt hlt) (by rw [size_push']; exact Nat.lt_succ_of_lt hlt)]
  exact Heap.get?_push_of_some _ q
end
section
variable {X : Cx} {W : WX}
def tSortSetT (K : PySem.W.Frag) (ta : TE) : TE := fun σ H Q => ta σ H fun x H1 => ∃ (l : Addr) (ks : List (Addr × List Int)), x = V.ref l ∧ (SqL K H1 l (ks.map fun p => V.ref p.1) ∨ SqT K H1 l (ks.map fun p => V.ref p.1)) ∧ (∀ p ∈ ks, SqT K H1 p.1 (p.2.map V.int)) ∧ (∀ p ∈ ks, p.2.length = 2) ∧ ks.length < 64 ∧
  ∀ (M : List (Addr × Pt)) (p : Addr), (∀ q ∈ M, ∃ k, (q.1, k) ∈ ks ∧ q.2 = kp k) → (M.map (·.2)).Nodup → (∀ k, k ∈ M.map (·.2) ↔ k ∈ ks.map fun q => kp q.2) → M.Pairwise (fun q r => leP q.2 r.2 = true) → H1 p = none → Q (.ref p) (upd H1 p (.lst (M.map fun q => V.ref q.1)))
theorem vals_refs : ∀ (M : List (Addr × Pt)), Vals (M.map fun p => V.ref p.1) (M.map fun p => Value.ref p.1)
  | [] => .nil
  | p :: M => .cons rfl (vals_refs M)
theorem pe_sortSetT {a : Expr} {ta : TE} {p p2 q pos : Pos} (hc : X.calm = true) (hu : X.A.units + 64 < cLine) (hg : Gl X "sorted") (hm : X.mg "sorted" = none) (hg2 : Gl X "set") (hm2 : X.mg "set" = none) (ha : PE X a ta)
    (na : starEach [a] X.env = (false, eval a X.env) :: starEach [] X.env := by rfl) : PE X (.Call (.Name "sorted" p) [.Call (.Name "set" p2) [a] [] q] [] pos) (tSortSetT X.K ta) := by
  constructor
  intro pins s σ H Q I h
  refine Call_ (ld_blt I hg hm PyProof.Rows.boot_sorted ?_)
  refine PyProof.Rows.callWith_builtin1 (PyProof.Rows.args_cons ?_ rfl) rfl rfl
  refine Call_ (ld_blt I hg2 hm2 PyProof.Rows.boot_set ?_)
  refine PyProof.Rows.callWith_type1 (PyProof.Rows.args_cons (thn (ha.run pins s σ H _ I h) fun v s1 ⟨x, H1, I1, r1, q1⟩ => PyProof.Rows.args_nil ?_) na) na rfl
  obtain ⟨l, ks, rfl, hq, hks, h22, hlt, q1⟩ := q1
  cases r1
  have fin : ∀ (s2 : Shared) (z : Addr) L es ep t, SetTR X.prog X.w s2.heap z L es ep t → Got ks ks.length L → Inv X pins σ H1 s2 →
      wpAny (model X.prog X.w) X.A (call (.builtin "sorted") [.ref z]) (EP X pins σ Q) X.xe s2 := fun s2 z L es ep t R g I2 => by
    have sub : ∀ p ∈ L, p ∈ ks := fun p hp => List.mem_of_mem_take (g.sub p hp)
    refine sort_set (s := s2) R (I2.ok.hd hc) hu (fun p hp => h22 p (sub p hp)) fun s' p out c M k2 g2 o2 hp ho eo pm pw => ?_
    have hM : M.length < 64 := by rw [pm.length_eq, List.length_map]; exact R.few
    have hlen : (M.map fun q => V.ref q.1).length ≤ sizeLine := by rw [List.length_map, sizeLine_eq]; omega
    have hn : H1 p = none := I2.hok.fresh hp
    have J : Inv X pins σ (upd H1 p (.lst (M.map fun q => V.ref q.1))) { s2 with heap := s'.heap, gens := s'.gens, drawn := s'.drawn, toks := s'.toks } :=
      I2.call (ch := []) (Un.laid k2 hp hn) (I2.hok.laid k2 hp ⟨hlen, out.toList, c, by rw [eo]; exact vals_refs M, by simpa using ho⟩) (by rw [g2]; exact I2.bare) (fun _ z => nomatch z)
    have e : s' = { s2 with heap := s'.heap, gens := s'.gens, drawn := s'.drawn, toks := s'.toks } := by
      cases s'
      cases s2
      cases o2
      rfl
    rw [e]
    refine ⟨.ref p, _, J, rfl, q1 M p (fun q hq => ?_) ?_ (fun z => ?_) pw hn⟩
    · obtain ⟨r, hr, e⟩ := List.mem_map.mp (pm.mem_iff.mp hq)
      exact ⟨r.2, by rw [← e]; exact sub r hr, by rw [← e]⟩
    · rw [(pm.map (·.2)).nodup_iff, List.map_map]
      have := R.nd
      rw [List.nodup_iff_pairwise_ne, List.pairwise_map] at this ⊢
      refine List.Pairwise.imp_of_mem (fun {a b} ha hb h e => h ?_) this
      exact kp_inj (h22 a (sub a ha)) (h22 b (sub b hb)) e
    · rw [(pm.map (·.2)).mem_iff, List.map_map]
      constructor
      · intro hz
        obtain ⟨r, hr, e⟩ := List.mem_map.mp hz
        exact List.mem_map.mpr ⟨r, sub r hr, e⟩
      · intro hz
        obtain ⟨r, hr, e⟩ := List.mem_map.mp hz
        obtain ⟨r2, h3, h4⟩ := List.mem_map.mp (g.all r (by rw [List.take_length]; exact hr))
        exact List.mem_map.mpr ⟨r2, h3, by rw [← e]; show kp r2.2 = kp r.2; rw [h4]⟩
  rcases hq with hq | hq
  · obtain ⟨its, rv, pl, hz⟩ := I1.list hq
    refine call_set_tups (P := X.prog) (w := X.w) ks (I1.ok.hd hc) pl.isList (by simpa using refs_of_vals rv) (fun p hp => I1.isT (hks p hp)) hlt (by omega) fun h' tk L es ep t R g k => PyProof.Rows.args_nil ?_
    exact fin { s1 with heap := h', toks := tk } _ L es ep t R g (I1.kept k)
  · obtain ⟨its, rv, pl, hz⟩ := I1.tuple hq
    refine set_of_tup (P := X.prog) (w := X.w) ks (I1.ok.hd hc) pl (by simpa using refs_of_vals rv) (fun p hp => I1.isT (hks p hp)) hlt (by omega) fun h' tk L es ep t R g k => PyProof.Rows.args_nil ?_
    exact fin { s1 with heap := h', toks := tk } _ L es ep t R g (I1.kept k)
def psort (ps : List Pt) : List Pt := ps.eraseDups.mergeSort leP
def gSortSet : D → R D
  | .list ds => (match asPts ds with
    | some ps => if ps.length < 64 then .ok (.list ((psort ps).map pt)) else .bad
    | none => .bad)
  | .tuple ds => (match asPts ds with
    | some ps => if ps.length < 64 then .ok (.list ((psort ps).map pt)) else .bad
    | none => .bad)
  | _ => .bad
theorem sorted_eq : ∀ {l m : List Pt}, l.Pairwise (fun a b => leP a b = true) → m.Pairwise (fun a b => leP a b = true) → l.Perm m → l = m
  | [], m, _, _, h => (List.nil_perm.mp h).symm
  | x :: l, [], _, _, h => absurd h.length_eq (by simp)
  | x :: l, y :: m, h1, h2, h => by
    have e : x = y := by
      have k1 := List.pairwise_cons.mp h1
      have k2 := List.pairwise_cons.mp h2
      rcases List.mem_cons.mp (h.mem_iff.mp (List.mem_cons_self ..)) with e | e
      · exact e
      · rcases List.mem_cons.mp (h.mem_iff.mpr (List.mem_cons_self ..)) with e2 | e2
        · exact e2.symm
        · exact leP_anti _ _ (k1.1 y e2) (k2.1 x e)
    subst e
    rw [sorted_eq (List.pairwise_cons.mp h1).2 (List.pairwise_cons.mp h2).2 (List.perm_cons _ |>.mp h)]
theorem psort_of {ps M : List Pt} (h1 : M.Nodup) (h2 : ∀ k, k ∈ M ↔ k ∈ ps) (h3 : M.Pairwise fun a b => leP a b = true) : M = psort ps := by
  have e := eraseDups_nodup ps.length ps (Nat.le_refl _)
  refine sorted_eq h3 (List.pairwise_mergeSort leP_trans leP_total _) (((List.perm_ext_iff_of_nodup h1 e.1).mpr fun k => ?_).trans (List.mergeSort_perm _ _).symm)
  rw [h2 k, e.2 k]
theorem pts_keys2 {K : PySem.W.Frag} {H : Hp} {xs : List V} {ps : List Pt} (h : DpAll K H xs (ps.map pt)) : ∃ ks : List (Addr × List Int), xs = (ks.map fun p => V.ref p.1) ∧ (∀ p ∈ ks, SqT K H p.1 (p.2.map V.int)) ∧ ks.map (·.2) = ps.map fun p => [p.1, p.2] := pts_keys h
theorem dpa_pts {K : PySem.W.Frag} {H : Hp} : ∀ (M : List (Addr × Pt)), (∀ q ∈ M, Dp K H (.ref q.1) (pt q.2)) → DpAll K H (M.map fun q => V.ref q.1) ((M.map (·.2)).map pt)
  | [], _ => .nil
  | q :: M, h => .cons (h q (List.mem_cons_self ..)) (dpa_pts M fun r hr => h r (List.mem_cons_of_mem _ hr))
theorem dp_key {K : PySem.W.Frag} {H : Hp} {a : Addr} {k : List Int} (h2 : k.length = 2) (h : SqT K H a (k.map V.int)) : Dp K H (.ref a) (pt (kp k)) := by
  match k, h2 with
  | [x, y], _ => exact .tup h (.cons (.int x) (.cons (.int y) .nil))
theorem ex_sortSet {e : Expr} {c : CE} {p1 p2 q1 q2 : Pos} (hc : X.calm = true) (hu : X.A.units + 64 < cLine) (hg : Gl X "sorted") (hm : X.mg "sorted" = none) (hg2 : Gl X "set") (hm2 : X.mg "set" = none) (he : Ex X W e c) (na : starEach [e] X.env = (false, eval e X.env) :: starEach [] X.env := by rfl) :
    Ex X W (.Call (.Name "sorted" p1) [.Call (.Name "set" p2) [e] [] q1] [] q2) (c1 gSortSet c) :=
  ⟨PE_weak (pe_sortSetT hc hu hg hm hg2 hm2 he.run na) fun σ H Q ⟨Z, ρ, hd, hr, ho⟩ => seqE hd hr ho fun d v H1 e1 d1 r1 hv o1 => by
    have key : ∀ (l : Addr) (xs : List V) (ds : List D), (SqL X.K (hid H1 Z) l xs ∨ SqT X.K (hid H1 Z) l xs) → DpAll X.K (hid H1 Z) xs ds → OutE X.K W H1 Z (match asPts ds with
        | some ps => if ps.length < 64 then .ok (.list ((psort ps).map pt)) else .bad
        | none => .bad) Q → v = .ref l → tSortSetT X.K (fun _ H Q => Q v H) σ H1 Q := by
      intro l xs ds hs ha ho2 hv2
      cases q : asPts ds with
      | none => rw [q] at ho2; exact ho2.elim
      | some ps =>
        rw [q] at ho2
        dsimp only at ho2
        by_cases h64 : ps.length < 64
        · rw [if_pos h64] at ho2
          have ed := asPts_of q
          subst ed
          obtain ⟨ks, k1, k2, k3⟩ := pts_keys ha
          subst k1
          have h22 : ∀ p ∈ ks, p.2.length = 2 := fun p hp => by
            have : p.2 ∈ ks.map (·.2) := List.mem_map.mpr ⟨p, hp, rfl⟩
            rw [k3] at this
            obtain ⟨z, _, e⟩ := List.mem_map.mp this
            rw [← e]; rfl
          have kk : ks.map (fun q => kp q.2) = ps := by
            have : (ks.map (·.2)).map kp = ps := by
              rw [k3, List.map_map]
              refine (List.map_congr_left fun p _ => ?_).trans (List.map_id ps)
              rfl
            rw [List.map_map] at this
            exact this
          refine ⟨l, ks, hv2, hs.imp (sql_same hid_same) (sqt_same hid_same), fun z hz => sqt_same hid_same (k2 z hz), h22, ?_, fun M p m1 m2 m3 m4 hp => ?_⟩
          · have := congrArg List.length k3
            rw [List.length_map, List.length_map] at this
            omega
          · rw [kk] at m3
            have em := psort_of m2 m3 (List.pairwise_map.mpr m4)
            have hdp : DpAll X.K (hid H1 Z) (M.map fun q => V.ref q.1) ((psort ps).map pt) := by
              rw [← em]
              refine dpa_pts M fun q hq => ?_
              obtain ⟨k, hk, e⟩ := m1 q hq
              rw [e]
              exact dp_key (h22 _ hk) (k2 _ hk)
            exact ho2 _ _ (same_new hp) (.lst (.inl (.inl (hid_new d1 hp))) (dpAll_same (hid_mono (same_new hp)) hdp))
        · rw [if_neg h64] at ho2; exact ho2.elim
    cases d with
    | list ds =>
      cases hv with
      | lst z1 z2 => exact key _ _ ds (.inl z1) z2 o1 rfl
    | tuple ds =>
      cases hv with
      | tup z1 z2 => exact key _ _ ds (.inr z1) z2 o1 rfl
    | _ => exact o1.elim⟩
end
end PL

set_option Elab.async false
set_option linter.all false
set_option maxRecDepth 100000
set_option maxHeartbeats 4000000
/-! PLT: try. -/
namespace PL
open PySem PySem.Spec PyProof.Rows L2
section
variable {X : Cx} {a C : Addr} {oe : Obj} {pn : List (Addr × Obj)}
/-- isinstance(e, T), e what the suite holds in slot i -/
theorem pe_isE {i : Nat} {x T : Str} {v : V} {cv : Value} {b : Bool} {p p1 p2 pos : Pos} (T1 : ExcC X.K C) (hz : Zc (.ref C) none oe) (hf : ∃ vs, oe.data = .fields vs) (hg : Gl X "isinstance") (hm : X.mg "isinstance" = none)
    (hi : PE (X.suite a ((a, oe) :: pn)) (.Name x p1) (tVar i)) (hT : PE (X.suite a ((a, oe) :: pn)) (.Name T p2) (tC v)) (hv : ∀ u, RelV v u → u = cv) (hb : PySem.W.kitOne X.K (.ref C) cv = some b)
    (hs1 : starEach [.Name x p1, .Name T p2] X.env = (false, eval (.Name x p1) X.env) :: starEach [.Name T p2] X.env := by rfl) (hs2 : starEach [.Name T p2] X.env = (false, eval (.Name T p2) X.env) :: starEach [] X.env := by rfl) (hpl : (backTo pos (starEach [.Name T p2] X.env)).any (·.1) = false := by rfl) :
    PE (X.suite a ((a, oe) :: pn)) (.Call (.Name "isinstance" p) [.Name x p1, .Name T p2] [] pos) (fun σ H Q => σ[i]? = some (some (.ref a)) ∧ Q (.bl b) H) :=
  PE_weak (pe_callB (call_isE T1 hz hf) hg hm PyProof.Rows.boot_isinstance (pa_cons hi (pa_cons hT pa_nil hs2) hs1) (by decide) (by decide) hs1 hpl) fun σ H Q ⟨h1, h2⟩ => ⟨_, h1, v, cv, b, rfl, hv, hb, h2⟩
theorem rel_ref {A : Addr} {u : Value} (h : RelV (.ref A) u) : u = .ref A := h
theorem rel_ty {T : String} {u : Value} (h : RelV (.ty T) u) : u = .type T := h
end
/-- the good word of three tests -/
def tGood (i : Nat) (a : Addr) (b1 b2 b3 : Bool) : TE := tAndV (fun σ H Q => σ[i]? = some (some (.ref a)) ∧ Q (.bl b1) H) (tAndV (fun σ H Q => σ[i]? = some (some (.ref a)) ∧ Q (.bl b2) H) (tNotV fun σ H Q => σ[i]? = some (some (.ref a)) ∧ Q (.bl b3) H))
theorem good_of {i : Nat} {a : Addr} {σ : L2.St} {H : Hp} {Q : VK} (h : σ[i]? = some (some (.ref a))) (q : Q (.bl true) H) : tGood i a true true false σ H Q :=
  ⟨h, true, rfl, by rw [if_pos rfl]; exact ⟨h, true, rfl, by rw [if_pos rfl]; exact ⟨h, false, rfl, q⟩⟩⟩
section
variable {X : Cx} {e : Expr} {es : List Expr}
theorem RepS.setNon {K : PySem.W.Frag} {Z : Addr → Prop} {H : Hp} {σ : L2.St} {ρ : SE} {i : Nat} {x : Option V} (r : RepS K Z H σ ρ) (h : ρ[i]? = some Sl.non) : RepS K Z H (σ.set i x) ρ ∧ ∀ b, Own (σ.set i x) ρ b ↔ Own σ ρ b := by
  have hget : ∀ j, ρ[j]? ≠ some Sl.non → (σ.set i x)[j]? = σ[j]? := fun j hj => List.getElem?_set_ne fun e => hj (by rw [← e]; exact h)
  have hO : ∀ b, Own (σ.set i x) ρ b ↔ Own σ ρ b := fun b => by
    constructor
    · rintro ⟨j, ds, h1, h2⟩
      rw [hget j (by rw [h1]; intro z; cases z)] at h2
      exact ⟨j, ds, h1, h2⟩
    · rintro ⟨j, ds, h1, h2⟩
      refine ⟨j, ds, h1, ?_⟩
      rw [hget j (by rw [h1]; intro z; cases z)]
      exact h2
  have hZ : ZO Z (σ.set i x) ρ = ZO Z σ ρ := by
    funext b
    unfold ZO
    rw [propext (hO b)]
  refine ⟨⟨by rw [List.length_set]; exact r.len, r.dom, fun j d hj => ?_, fun j ds hj => ?_, fun j k b ds es h1 h2 h3 h4 => ?_⟩, hO⟩
  · rw [hget j (by rw [hj]; intro z; cases z), hZ]
    exact r.vals j d hj
  · rw [hget j (by rw [hj]; intro z; cases z), hZ]
    exact r.owns j ds hj
  · rw [hget j (by rw [h1]; intro z; cases z)] at h3
    rw [hget k (by rw [h2]; intro z; cases z)] at h4
    exact r.dist j k b ds es h1 h2 h3 h4
/-- try: y = f(..) except C as en: (the suite's own meaning at n0) -/
def sTry (i j n0 : Nat) (sem : Sem1) (cs : Env → R (List D)) (sc : CS) : CS := fun ρ => match cs (vE ρ) with
  | .ok ds => (match sem ds with
    | .ok d => .nx (ρ.set i (.val d))
    | .exc x => if x = n0 then (match ρ[j]? with
      | some .non => sc ρ
      | _ => .bad) else .bad
    | .bad => .bad)
  | _ => .bad
theorem sm_try {i j n0 n : Nat} {y en fn Cn : Str} {Cl : Nat → Addr} {k : Nat} {f : Addr} {fd : FuncData} {ps : List Str} {sem : Sem1} {cs : Env → R (List D)} {sc : CS} {b0 : Stmt} {suite : List Stmt} {py pf cp ap np hp pos : Pos} {ts0 : Addr → TS}
    (hs : X.stack = X.env :: X.outer) (hf : X.env.frame = some X.env.locals) (hN : X.N.Nodup) (hi : X.N[i]? = some y) (hyl : Loc X.env.scope y) (hj : X.N[j]? = some en) (hln : X.env.kindOf en = some .local) (hc : Names X Cn (.ref (Cl n0)))
    (F : FnOk X.prog X.w X.K X.mg X.base (L2.CX X.prog X.w) k f fd ps (spF X.K Cl n sem)) (hr : Room k X.A) (hg : Gl X fn) (hm : X.mg fn = some (.ref f)) (hk : PySem.W.keepIn X.K (.ref f) = true) (hb : Binds X.K fd ps [])
    (ha : ∀ (W : WX) (pn : List (Addr × Obj)) (xe : Value → Shared → Prop), Ar (X.tr pn xe) W (e :: es) cs) (hn : ∀ ρ ds, cs ρ = .ok ds → ds.length = n) (hdb : (fn == ("__debug__" : Str)) = false)
    (hex : PySem.W.exmOne X.K (.ref (Cl n0)) (.ref (Cl n0)) = some true)
    (hsu : ∀ (a : Addr) (oe : Obj) (pn : List (Addr × Obj)), Zc (.ref (Cl n0)) none oe → (∃ vs, oe.data = .fields vs) → PSs (X.suite a ((a, oe) :: pn)) (b0 :: suite) (ts0 a))
    (hts : ∀ (a : Addr) (D : Ends) (σ : L2.St) (Z : Addr → Prop) (ρ : SE) (H : Hp), RepS X.K Z H σ ρ → ρ[j]? = some Sl.non → H a = none → OutS X.K W0 Z D σ ρ H (sc ρ) → ts0 a D (σ.set j (some (.ref a))) H)
    (hret : ∀ ρ, (∃ d, sc ρ = .rt d) ∨ (∃ x, sc ρ = .exc x) ∨ sc ρ = .bad)
    (he : starEach (e :: es) X.env = (false, eval e X.env) :: starEach es X.env := by rfl) (hpl : (backTo cp (starEach es X.env)).any (·.1) = false := by rfl)
    (hsw : swapsWith (.Call (.Name fn pf) (e :: es) [] cp) (some (.Name y py)) ap.line X.env = pure false := by rfl) (hfn : X.fn y = true ∨ X.env.scope.names.lookup y = some .local := by first | exact .inl rfl | exact .inr rfl | assumption) :
    Sm X W0 (.Try [.Assign [.Name y py] (.Call (.Name fn pf) (e :: es) [] cp) ap] [.ExceptHandler (some (.Name Cn np)) (some en) (b0 :: suite) hp] [] [] pos) (sTry i j n0 sem cs sc) :=
  ⟨PS_weak (ps_try_as (i := j) (Wout := fun _ _ _ _ => False) (ts := fun a cls d D σ H => (cls = .ref (Cl n0) ∧ d = none) ∧ ts0 a D σ H)
      (tb := fun W => tAsg (fun σ H Q => ∃ Z ρ, Dom H Z ∧ RepE X.K (hid H Z) σ ρ ∧ OutA X.K W0 H Z (cs ρ) fun vs H1 => spF X.K Cl n sem vs H1 Q (WE W σ)) (gName i))
      hs hf hN hj hln hc takes0
      (fun W pn xe tk _ => pss_one (ps_set (i := i) hN hi hyl (PE_weak (pe_callS (X := X.tr pn xe) (E := WE W) F hr hg hm hk hb (fun σ => passAt tk σ) (ha W0 pn xe).run hdb he hpl) fun σ H Q h => by
        obtain ⟨Z, ρ, hd, hr2, ho⟩ := h
        exact ⟨Z, ρ, hd, hr2, ho⟩) hsw hfn))
      (fun a oe cls d pn hz hfl => ⟨fun pins s σ H D I ⟨⟨e1, e2⟩, h⟩ => by
        subst e1; subst e2
        exact (hsu a oe pn hz hfl).run pins s σ H D I h⟩)) fun D σ H ⟨Z, ρ, r, o⟩ => by
    unfold sTry at o
    refine ⟨ZO Z σ ρ, vE ρ, r.domO, r.v, ?_⟩
    cases hcs : cs (vE ρ) with
    | bad => rw [hcs] at o; exact o.elim
    | exc x => rw [hcs] at o; exact o.elim
    | ok ds =>
      rw [hcs] at o
      dsimp only at o
      refine fun vs H1 e1 hv => ?_
      refine ⟨by rw [dpa_length hv]; exact hn _ ds hcs, ZO Z σ ρ, ds, r.domO.mono e1, hv, ?_⟩
      cases hse : sem ds with
      | bad => rw [hse] at o; exact o.elim
      | ok d =>
        rw [hse] at o
        exact fun v H2 e2 hv2 => o _ H2 ((r.mono (e1.trans e2)).set hv2).1 ((hid_mono (e1.trans e2)).trans ((r.mono (e1.trans e2)).set hv2).2)
      | exc x =>
        rw [hse] at o
        dsimp only at o
        by_cases hx : x = n0
        · rw [if_pos hx] at o
          subst hx
          split at o
          · rename_i hnon
            refine fun H2 e2 => ⟨true, hex, fun _ a ha2 => ⟨⟨rfl, rfl⟩, hts a _ σ Z ρ H2 (r.mono (e1.trans e2)) hnon ha2 ?_⟩, fun z => (by cases z)⟩
            have o2 := OutS.grow o (e1.trans e2)
            rcases hret ρ with ⟨d, hd⟩ | ⟨x, hd⟩ | hd
            · rw [hd] at o2 ⊢
              exact o2
            · rw [hd] at o2 ⊢
              exact o2
            · rw [hd] at o2
              exact o2.elim
          · exact o.elim
        · rw [if_neg hx] at o
          exact o.elim⟩
/-- the suite: g = three tests; return .. -/
def sGood (g : Nat) (cret : CE) : CS := fun ρ => match ρ[g]? with
  | some .non => sRet cret (ρ.set g (.val (.bool true)))
  | _ => .bad
theorem sGood_ret {g : Nat} {cret : CE} (ρ : SE) : (∃ d, sGood g cret ρ = .rt d) ∨ (∃ x, sGood g cret ρ = .exc x) ∨ sGood g cret ρ = .bad := by
  unfold sGood
  split
  · unfold sRet
    split
    · exact .inl ⟨_, rfl⟩
    · exact .inr (.inl ⟨_, rfl⟩)
    · exact .inr (.inr rfl)
  · exact .inr (.inr rfl)
theorem suite_good {K : PySem.W.Frag} {j g : Nat} {cret : CE} (hjg : j ≠ g) (a : Addr) (D : Ends) (σ : L2.St) (Z : Addr → Prop) (ρ : SE) (H : Hp) (r : RepS K Z H σ ρ) (hnon : ρ[j]? = some Sl.non) (ha : H a = none)
    (o : OutS K W0 Z D σ ρ H (sGood g cret ρ)) : tSeq (tAsg (tGood j a true true false) (gName g)) (tS K W0 (sRet cret)) D (σ.set j (some (.ref a))) H := by
  have rn := RepS.setNon (x := some (.ref a)) r hnon
  have hj : j < σ.length := Nat.lt_of_lt_of_le (List.getElem?_eq_some_iff.mp hnon).1 r.len
  refine good_of (by rw [List.getElem?_set_self hj]) ?_
  unfold sGood at o
  split at o
  · have rs := rn.1.set (i := g) (v := .bl true) (d := .bool true) (.bl true)
    refine ⟨Z, _, rs.1, ?_⟩
    have hsame : Same (hid H (Own σ ρ)) (hid H (Own ((σ.set j (some (.ref a))).set g (some (.bl true))) (ρ.set g (.val (.bool true))))) := fun b u e => by
      obtain ⟨z, q⟩ := hid_some e
      exact rs.2 b u (hid_mk (fun y => z ((rn.2 b).mp y)) q)
    unfold sRet at o ⊢
    split at o
    · exact fun v H' e hv => o v H' (hsame.trans e) hv
    · exact fun H' e => o H' (hsame.trans e)
    · exact o.elim
  · exact o.elim
/-- try: f(..) except C: return True -/
def sTry0 (n0 : Nat) (sem : Sem1) (cs : Env → R (List D)) (sc : CS) : CS := fun ρ => match cs (vE ρ) with
  | .ok ds => (match sem ds with
    | .ok d => .nx ρ
    | .exc x => if x = n0 then sc ρ else .bad
    | .bad => .bad)
  | _ => .bad
end
theorem fn_sure {P : Program} {w : World} {K : PySem.W.Frag} {mg : Str → Option Value} {base : Heap} {CX : CXT} {k : Nat} {f : Addr} {fd : FuncData} {ps : List Str} {Cl Cl' : Nat → Addr} {n : Nat} {m : Sem1} (F : FnOk P w K mg base CX k f fd ps (spF K Cl n m)) :
    FnOk P w K mg base CX k f fd ps (spF K Cl' n (pureS m)) := F.imp fun vs H Q E ⟨h1, Z, ds, h2, h3, h4⟩ => by
  refine ⟨h1, Z, ds, h2, h3, ?_⟩
  unfold pureS at h4
  split at h4
  · rename_i d hd
    rw [hd]
    exact h4
  · exact h4.elim
/-- what the text says of a class that a clause names -/
structure CatE (K : PySem.W.Frag) (C : Addr) : Prop where
  m : PySem.W.exmOne K (.ref C) (.ref C) = some true
  c : ExcC K C
theorem cat_mk {K : PySem.W.Frag} {C : Addr} (s : PySem.W.subIn K (.ref C) (.type "BaseException") = some true) (d : PySem.W.hasDictIn K C = true) (t : PySem.W.typeIn K (.ref C) = some (.type "type")) (z : PySem.W.subIn K (.ref C) (.ref C) = some true)
    (hg : PySem.W.findIn K (.ref C) "__getattribute__" = some (some (.builtin "BaseException.__getattribute__"))) (hk : PySem.W.findIn K (.ref C) "__getattr__" = some none)
    (ha : PySem.W.findIn K (.ref C) "__class__" = some (some (.builtin "object.__class__"))) (hn : PySem.W.specialIn K (.builtin "object.__class__") "__get__" = some (some (.builtin "getset_descriptor.__get__")))
    (ht : PySem.W.takesIn K (.builtin "object.__class__") = some true) (hm : PySem.W.mroIn K C (.type "object") = some true) : CatE K C := ⟨PySem.W.exm_ref s d t z, ⟨hg, hk, s, d, ha, hn, ht, hm⟩⟩
end PL
namespace PL
open PySem PySem.Spec PyProof.Rows L2
def clsF (a b c : Addr) : Nat → Addr
  | 0 => a
  | 1 => b
  | _ => c
theorem fn_bad {P : Program} {w : World} {K : PySem.W.Frag} {mg : Str → Option Value} {base : Heap} {CX : CXT} {k : Nat} {f : Addr} {fd : FuncData} {ps : List Str} {Cl : Nat → Addr} : FnOk P w K mg base CX k f fd ps (spF K Cl ps.length fun _ => .bad) :=
  ⟨fun vs H Q E h => h.1, fun A outer s H args us vs Q E hr he hb hv ⟨_, Z, ds, _, _, ho⟩ => ho.elim⟩
theorem kit_own {K : PySem.W.Frag} {C T : Addr} {b : Bool} (i : PySem.W.isClsIn K T = true) (t : PySem.W.typeIn K (.ref T) = some (.type "type")) (s : PySem.W.subIn K (.ref C) (.ref T) = some b) (z : PySem.W.subIn K (.ref C) (.ref C) = some true) : PySem.W.kitOne K (.ref C) (.ref T) = some b := by
  unfold PySem.W.kitOne
  by_cases h : C = T
  · subst h
    rw [if_pos (by simp), ← s, z]
  · rw [if_neg (by simpa using h)]
    unfold PySem.W.kitCls
    dsimp only
    have i' : (PySem.W.clsIn K T).isSome = true := i
    rw [i', t, s]
    rfl
theorem kit_bt {K : PySem.W.Frag} {C : Addr} {T : String} {b : Bool} (m : PySem.W.kitMeta T = true) (s : PySem.W.subIn K (.ref C) (.type T) = some b) : PySem.W.kitOne K (.ref C) (.type T) = some b := by
  unfold PySem.W.kitOne
  rw [if_neg (by simp)]
  unfold PySem.W.kitCls
  dsimp only
  rw [if_pos m, s]
end PL

set_option Elab.async false
set_option linter.all false
set_option maxRecDepth 100000
set_option maxHeartbeats 4000000
/-! PLV: t[::-1], t a tuple. -/
namespace PL
open PySem PySem.Spec PyProof.Rows L2 HT
section
variable {prog : Program} {w : World} {A : Around} {E : Value → Shared → Prop} {s : Shared}
theorem sliceApplied_back {sl : Addr} {vs : Value} {n : Nat} {Q : Int × Int × Nat → Shared → Prop} (hs : s.heap.IsSliceOf sl .none .none vs) (ps : IsPart vs (some (-1)))
    (h : Q ((n : Int) - 1, -1, n) s) : wpAny (model prog w) A (Builtin.Slice.sliceApplied (.ref sl) (pure (n : Int))) Q E s := by
  obtain ⟨os, hos, hcs, hds⟩ := id hs
  unfold Builtin.Slice.sliceApplied Builtin.Slice.sliceFields
  refine wpAny_bind (wpAny_bind (wpAny_field hos hds (x := .none) rfl (wpAny_bind (wpAny_field hos hds (x := .none) rfl (wpAny_bind (wpAny_field hos hds (x := vs) rfl (wpAny_pure ?_)))))))
  refine wpAny_bind (slicePart_ ps ?_)
  show wpAny _ _ (if ((-1 : Int) == 0) = true then _ else _) _ _ s
  rw [if_neg (by decide)]
  refine wpAny_bind (slicePart_none (wpAny_bind (slicePart_none (wpAny_bind (wpAny_pure ?_)))))
  show wpAny _ _ (match Builtin.Slice.sliceAdjust none none (-1) (n : Int) with | (lo, hi) => pure (lo, (-1 : Int), Builtin.Slice.slicePlaces lo hi (-1))) _ _ s
  have e1 : Builtin.Slice.sliceAdjust none none (-1) (n : Int) = ((n : Int) - 1, -1) := by
    unfold Builtin.Slice.sliceAdjust
    simp
  have e2 : Builtin.Slice.slicePlaces ((n : Int) - 1) (-1) (-1) = n := by
    unfold Builtin.Slice.slicePlaces
    simp
    omega
  rw [e1]
  show wpAny _ _ (pure ((n : Int) - 1, (-1 : Int), Builtin.Slice.slicePlaces ((n : Int) - 1) (-1) (-1))) _ _ s
  rw [e2]
  exact wpAny_pure h
theorem pick_back (xs : List Value) : (List.range xs.length).filterMap (fun (m : Nat) => xs.toArray[(((xs.length : Int) - 1) + (m : Int) * (-1)).toNat]?) = xs.reverse := by
  have e : ∀ m ∈ List.range xs.length, xs.toArray[(((xs.length : Int) - 1) + (m : Int) * (-1)).toNat]? = some (xs.reverse.getD m .none) := fun m hm => by
    have hm := List.mem_range.mp hm
    have e2 : (((xs.length : Int) - 1) + (m : Int) * (-1)).toNat = xs.length - 1 - m := by omega
    rw [e2, List.getD_eq_getElem?_getD, List.getElem?_reverse hm]
    simp only [List.getElem?_toArray]
    rw [List.getElem?_eq_getElem (by omega)]
    rfl
  have key : ∀ (l : List Nat) (f : Nat → Option Value) (g : Nat → Value), (∀ m ∈ l, f m = some (g m)) → l.filterMap f = l.map g := by
    intro l f g h
    induction l with
    | nil => rfl
    | cons x l ih => rw [List.filterMap_cons_some (h x (List.mem_cons_self ..)), List.map_cons, ih fun m hm => h m (List.mem_cons_of_mem _ hm)]
  rw [key _ _ _ e]
  apply List.ext_getElem
  · simp
  · intro i h1 h2
    rw [List.getElem_map, List.getElem_range, List.getD_eq_getElem?_getD, List.getElem?_eq_getElem h2]
    rfl
theorem getItem_tuple_back {t sl : Addr} {xs : List Value} {vs : Value} {Q : Value → Shared → Prop} (ht : IsTup s.heap t xs.toArray) (hs : s.heap.IsSliceOf sl .none .none vs) (ps : IsPart vs (some (-1)))
    (h : Q (.ref s.heap.objs.size) { s with heap := s.heap.push { cls := .type "tuple", data := .seq xs.reverse.toArray } }) (hsz : xs.length ≤ sizeLine) : wpAny (model prog w) A (getItem (.ref t) (.ref sl)) Q E s := by
  obtain ⟨os, hos, hcs, hds⟩ := id hs
  have hT : s.TypeIs (.ref sl) "slice" := ⟨os, hos, hcs⟩
  unfold getItem
  try with_reducible refine wpAny_holding ?_
  first | refine wpAny_bind (wpAny_pure ?_) | skip
  refine wpAny_bind (wpAny_sequenceKey ht.typeIs (by decide) ?_)
  refine wpAny_bind (wpAny_callSpecial?_slot (name := Str.ofString "__getitem__") ht.typeIs PyProof.Rows.slot_tuple_getitem (wpAny_call_entry PyProof.Rows.slot_tuple_getitem ht.typeIs entry_tuple_getitem ?_ (args_tuple_getitem _ _)))
  show wpAny _ _ (Builtin.Tuple.tupleItemsOf (.ref t) >>= _) _ _ s
  refine wpAny_bind (tupleItemsOf_ ht ?_)
  refine wpAny_bind (wpAny_typeOf hT ?_)
  rw [if_pos (by decide)]
  have hsize : xs.toArray.size = xs.length := by simp
  rw [hsize]
  refine wpAny_bind (sliceApplied_back hs ps ?_)
  show wpAny _ _ (if (((xs.length : Int) - 1) == 0 && (-1 : Int) == 1 && xs.length == xs.toArray.size) = true then _ else _) _ _ s
  rw [if_neg (by simp)]
  rw [show ((List.range xs.length).filterMap fun (m : Nat) => xs.toArray[(((xs.length : Int) - 1) + (m : Int) * (-1)).toNat]?) = xs.reverse from pick_back xs]
  have hok : sizeOk (.seq xs.reverse.toArray) := by
    show xs.reverse.toArray.size ≤ sizeLine
    simpa using hsz
  first
    | exact wpAny_bind (m := Builtin.Tuple.tupleExact _) (wpAny_newObj_type (wpAny_pure ⟨_, rfl, wpAny_pure h⟩) hok)
    | exact wpAny_bind (m := Builtin.Tuple.tupleExact _) (wpAny_newObj_type (wpAny_bind (wpAny_pure (wpAny_pure ⟨_, rfl, wpAny_pure h⟩))) hok)
    | exact wpAny_bind (wpAny_bind (m := Builtin.Tuple.tupleExact _) (wpAny_newObj_type (wpAny_pure (wpAny_pure ⟨_, rfl, wpAny_pure h⟩)) hok))
    | exact wpAny_bind (wpAny_bind (m := Builtin.Tuple.tupleExact _) (wpAny_newObj_type (wpAny_pure ⟨_, rfl, wpAny_pure h⟩) hok))
end
section
variable {X : Cx} {W : WX} {e : Expr} {c : CE} {pos : Pos}
def tRevT (K : PySem.W.Frag) (te : TE) : TE := fun σ H Q => te σ H fun x H1 => ∃ a xs, x = .ref a ∧ SqT K H1 a xs ∧ ∀ p, H1 p = none → Q (.ref p) (upd H1 p (.tup xs.reverse))
theorem pe_revT {te : TE} {k : Nat} {p1 p2 p3 : Pos} (he : PE X e te) : PE X (.Subscript e (.Slice none none (some (.UnaryOp .USub (.Constant (.int 1) k p1) p2)) p3) pos) (tRevT X.K te) := by
  constructor
  intro pins s σ H Q I h
  refine Subscript_ (thn (he.run pins s σ H _ I h) fun v s1 ⟨x, H1, I1, r1, q1⟩ => ?_)
  obtain ⟨a, xs, rfl, hx, q⟩ := q1
  cases r1
  have hst : PO X (some (.UnaryOp .USub (.Constant (.int 1) k p1) p2)) (tPart (tUn (rU fun i => .int (-i)) (tC (.int 1)))) := po_some (pe_un un_neg pe_int)
  refine wpAny_Slice (thn (po_none.run pins s1 σ H1 (fun o H2 => o = none ∧ H2 = H1) I1 ⟨rfl, rfl⟩) fun vl s2 ⟨l, H2, I2, pl, el, e2⟩ => ?_)
  subst el e2
  refine thn (po_none.run pins s2 σ H2 (fun o H3 => o = none ∧ H3 = H2) I2 ⟨rfl, rfl⟩) fun vu s3 ⟨u, H3, I3, pu, eu, e3⟩ => ?_
  subst eu e3
  refine thn (hst.run pins s3 σ H3 (fun o H4 => o = some (-1) ∧ H4 = H3) I3 ⟨1, rfl, -1, rfl, rfl, rfl⟩) fun vs s4 ⟨o, H4, I4, ps, eo, e4⟩ => ?_
  subst eo e4
  cases pl
  cases pu
  have I5 : Inv X pins σ H4 { s4 with heap := s4.heap.push { cls := .type "slice", data := .fields #[.none, .none, vs] } } := I4.kept (t' := s4.toks) fun b ob q => Heap.get?_push_of_some _ q
  obtain ⟨its, r, ht, hz⟩ := I5.tuple hx
  have hlen := r.length
  show wpAny (model X.prog X.w) X.A (subscriptTail e (.Slice none none (some (.UnaryOp .USub (.Constant (.int 1) k p1) p2)) p3) (.ref a) (.ref s4.heap.objs.size)) (EP X pins σ Q) X.xe { s4 with heap := s4.heap.push { cls := .type "slice", data := .fields #[.none, .none, vs] } }
  refine tail_any (ops := [.ref a, .ref s4.heap.objs.size]) ht.typeIs (PyProof.Rows.slot_tuple_getitem.lookup) ?_ (by with_unfolding_all rfl)
  refine getItem_tuple_back ht (Heap.IsSliceOf.new _ .none .none vs) ps ?_ (by omega)
  refine ⟨.ref _, _, I5.laid (t' := s4.toks) (o := .tup xs.reverse) (fun b ob q => Heap.get?_push_of_some _ q) (Nat.le_refl _) ?_, rfl, q _ (I5.hok.fresh (Nat.le_refl _))⟩
  exact ⟨by rw [List.length_reverse]; exact hz, _, r.reverse, ⟨_, Heap.get?_push_size _ rfl, rfl, 0, rfl⟩⟩
def gRevT : D → R D
  | .tuple ds => .ok (.tuple ds.reverse)
  | _ => .bad
theorem ex_revT {k : Nat} {p1 p2 p3 : Pos} (he : Ex X W e c) : Ex X W (.Subscript e (.Slice none none (some (.UnaryOp .USub (.Constant (.int 1) k p1) p2)) p3) pos) (c1 gRevT c) :=
  ⟨PE_weak (pe_revT he.run) fun σ H Q ⟨Z, ρ, hd, hr, ho⟩ => seqE hd hr ho fun d v H1 e1 d1 r1 hv o1 => by
    cases d with
    | tuple ds =>
      cases hv with
      | tup q1 q2 => exact ⟨_, _, rfl, sqt_same hid_same q1, fun p hp => o1 _ _ (same_new hp) (.tup (.inl (.inl (hid_new d1 hp))) (dpAll_same (hid_mono (same_new hp)) (dpa_rev q2)))⟩
    | _ => exact o1.elim⟩
end
end PL

set_option Elab.async false
set_option linter.all false
set_option maxRecDepth 100000
set_option maxHeartbeats 4000000
/-! PLW: words of texts. -/
namespace PL
open PySem PySem.Spec PyProof.Rows L2
def asStrs : List D → Option (List Str)
  | [] => some []
  | .str a :: r => (asStrs r).map (a :: ·)
  | _ :: _ => none
theorem asStrs_of : ∀ {ds : List D} {ys : List Str}, asStrs ds = some ys → ds = ys.map .str
  | [], ys, h => by cases h; rfl
  | .str a :: r, ys, h => by
    unfold asStrs at h
    cases q : asStrs r with
    | none => rw [q] at h; cases h
    | some zs =>
      rw [q] at h
      cases h
      rw [asStrs_of q]; rfl
  | .none :: _, _, h => by cases h
  | .bool _ :: _, _, h => by cases h
  | .int _ :: _, _, h => by cases h
  | .list _ :: _, _, h => by cases h
  | .tuple _ :: _, _, h => by cases h
  | .dict _ :: _, _, h => by cases h
theorem asStrs_map : ∀ ys : List Str, asStrs (ys.map .str) = some ys
  | [] => rfl
  | y :: ys => by rw [List.map_cons, asStrs, asStrs_map ys]; rfl
theorem dpa_strs2 {K : PySem.W.Frag} {H : Hp} : ∀ {vs : List V} {ys : List Str}, DpAll K H vs (ys.map .str) → vs = ys.map V.str
  | _, [], h => by cases h; rfl
  | _, y :: ys, h => by
    cases h with
    | cons h1 h2 =>
      cases h1
      rw [dpa_strs2 h2]; rfl
theorem strs_dpa {K : PySem.W.Frag} {H : Hp} : ∀ (ys : List Str), DpAll K H (ys.map V.str) (ys.map .str)
  | [] => .nil
  | y :: ys => .cons (.str y) (strs_dpa ys)
def joinR (a : Str) (ds : List D) : R D := match asStrs ds with
  | some ys => if (ys.map (·.length)).sum + ys.length * a.length ≤ 16777216 then .ok (.str (Txt.join a ys)) else .bad
  | none => .bad
def gJoin : D → Sem1
  | .str a, [.list ds] => joinR a ds
  | .str a, [.tuple ds] => joinR a ds
  | _, _ => .bad
def gSplit : D → Sem1
  | .str a, [.str b] => if (b.length == 0) = false ∧ a.length + 2 ≤ sizeLine ∧ (Txt.split a b).length ≤ sizeLine then .ok (.list ((Txt.split a b).map .str)) else .bad
  | _, _ => .bad
def gStarts : D → Sem1
  | .str a, [.str b] => .ok (.bool (Txt.startswith a b))
  | _, _ => .bad
def gFind : D → Sem1
  | .str a, [.str b] => .ok (.int (Txt.find a b))
  | _, _ => .bad
section
variable {X : Cx} {W : WX}
theorem m_startswith : MtR X "str.startswith" (rMG X.K W gStarts) := by
  intro pins s σ H x xs v us Q I rx rs h
  obtain ⟨Z, d, ds, hd, hx, hv, o⟩ := h
  unfold gStarts at o
  split at o
  · rename_i a b
    cases hx
    cases hv with
    | cons h1 h2 =>
      cases h2
      cases h1
      exact mt_startswith pins s σ H _ _ v us Q I rx rs ⟨a, b, rfl, rfl, give o (.bl _)⟩
  · exact o.elim
theorem m_find : MtR X "str.find" (rMG X.K W gFind) := by
  intro pins s σ H x xs v us Q I rx rs h
  obtain ⟨Z, d, ds, hd, hx, hv, o⟩ := h
  unfold gFind at o
  split at o
  · rename_i a b
    cases hx
    cases hv with
    | cons h1 h2 =>
      cases h2
      cases h1
      exact mt_find pins s σ H _ _ v us Q I rx rs ⟨a, b, rfl, rfl, give o (.int _)⟩
  · exact o.elim
theorem m_join : MtR X "str.join" (rMG X.K W gJoin) := by
  intro pins s σ H x xs v us Q I rx rs h
  obtain ⟨Z, d, ds, hd, hx, hv, o⟩ := h
  have key : ∀ (a : Str) (p : Addr) (vs : List V) (es : List D), x = .str a → xs = [.ref p] → (SqL X.K (hid H Z) p vs ∨ SqT X.K (hid H Z) p vs) → DpAll X.K (hid H Z) vs es → OutE X.K W H Z (joinR a es) Q → wpAny (model X.prog X.w) X.A (call (.builtin "str.join") (v :: us)) (EP X pins σ Q) X.xe s := by
    intro a p vs es e1 e2 hs ha o2
    subst e1 e2
    unfold joinR at o2
    cases q : asStrs es with
    | none => rw [q] at o2; exact o2.elim
    | some ys =>
      rw [q] at o2
      dsimp only at o2
      by_cases hz : (ys.map (·.length)).sum + ys.length * a.length ≤ 16777216
      · rw [if_pos hz] at o2
        have e := asStrs_of q
        subst e
        have e := dpa_strs2 ha
        subst e
        exact mt_join pins s σ H _ _ v us Q I rx rs ⟨a, p, ys, rfl, rfl, hs.imp (sql_same hid_same) (sqt_same hid_same), hz, give o2 (.str _)⟩
      · rw [if_neg hz] at o2
        exact o2.elim
  unfold gJoin at o
  split at o
  · rename_i a es
    cases hx
    cases hv with
    | cons h1 h2 =>
      cases h2
      cases h1 with
      | lst z1 z2 => exact key a _ _ es rfl rfl (.inl z1) z2 o
  · rename_i a es
    cases hx
    cases hv with
    | cons h1 h2 =>
      cases h2
      cases h1 with
      | tup z1 z2 => exact key a _ _ es rfl rfl (.inr z1) z2 o
  · exact o.elim
theorem m_split : MtR X "str.split" (rMG X.K W gSplit) := by
  intro pins s σ H x xs v us Q I rx rs h
  obtain ⟨Z, d, ds, hd, hx, hv, o⟩ := h
  unfold gSplit at o
  split at o
  · rename_i a b
    split at o
    · rename_i hc
      cases hx
      cases hv with
      | cons h1 h2 =>
        cases h2
        cases h1
        refine mt_split pins s σ H _ _ v us Q I rx rs ⟨a, b, rfl, rfl, hc.1, hc.2.1, ?_⟩
        exact fun p hp => o _ _ (same_new hp) (.lst (.inl (.inl (hid_new hd hp))) (strs_dpa _))
    · exact o.elim
  · exact o.elim
end
end PL

set_option Elab.async false
set_option linter.all false
set_option maxRecDepth 100000
set_option maxHeartbeats 4000000
/-! PLY: try around a call whose answer is dropped. -/
namespace PL
open PySem PySem.Spec PyProof.Rows L2
section
variable {X : Cx} {e : Expr} {es : List Expr}
/-- what the called def wishes -/
theorem spF_go {K : PySem.W.Frag} {Cl : Nat → Addr} {n : Nat} {sem : Sem1} {W : L2.WX} {Z : Addr → Prop} {H1 : Hp} {σ : L2.St} {vs : List V} {ds : List D} {Q : VK} (hl : ds.length = n) (hd : Dom H1 Z) (hv : DpAll K (hid H1 Z) vs ds)
    (h1 : ∀ d, sem ds = .ok d → ∀ v H2, Same H1 H2 → Dp K (hid H2 Z) v d → Q v H2) (h2 : ∀ x, sem ds = .exc x → ∀ H2, Same H1 H2 → W (.ref (Cl x)) none σ H2) (h3 : sem ds ≠ .bad) : spF K Cl n sem vs H1 Q (WE W σ) := by
  refine ⟨by rw [dpa_length hv]; exact hl, Z, ds, hd, hv, ?_⟩
  cases q : sem ds with
  | ok d => exact h1 d q
  | exc x => exact h2 x q
  | bad => exact absurd q h3
theorem sm_try0 {n0 n : Nat} {fn Cn : Str} {Cl : Nat → Addr} {c : Addr} {k : Nat} {f : Addr} {fd : FuncData} {ps : List Str} {sem : Sem1} {cs : Env → R (List D)} {sc : CS} {b0 : Stmt} {suite : List Stmt} {pf cp ep np hp pos : Pos}
    (hs : X.stack = X.env :: X.outer) (hf : X.env.frame = some X.env.locals) (hc : Names X Cn (.ref c))
    (F : FnOk X.prog X.w X.K X.mg X.base (L2.CX X.prog X.w) k f fd ps (spF X.K Cl n sem)) (hr : Room k X.A) (hg : Gl X fn) (hm : X.mg fn = some (.ref f)) (hk : PySem.W.keepIn X.K (.ref f) = true) (hb : Binds X.K fd ps [])
    (ha : ∀ (W : WX) (pn : List (Addr × Obj)) (xe : Value → Shared → Prop), Ar (X.tr pn xe) W (e :: es) cs) (hn : ∀ ρ ds, cs ρ = .ok ds → ds.length = n) (hdb : (fn == ("__debug__" : Str)) = false)
    (hex : PySem.W.exmOne X.K (.ref (Cl n0)) (.ref c) = some true)
    (hsu : ∀ (a : Addr) (oe : Obj) (pn : List (Addr × Obj)), Sms (X.suite a ((a, oe) :: pn)) W0 (b0 :: suite) sc)
    (he : starEach (e :: es) X.env = (false, eval e X.env) :: starEach es X.env := by rfl) (hpl : (backTo cp (starEach es X.env)).any (·.1) = false := by rfl)
    (hsw : swapsWith (.Call (.Name fn pf) (e :: es) [] cp) none ep.line X.env = pure false := by rfl) :
    Sm X W0 (.Try [.Expr (.Call (.Name fn pf) (e :: es) [] cp) ep] [.ExceptHandler (some (.Name Cn np)) none (b0 :: suite) hp] [] [] pos) (sTry0 n0 sem cs sc) :=
  ⟨PS_weak (ps_try_only (Wout := fun _ _ _ _ => False) (ts := fun a cls d => tS X.K W0 sc)
      (tb := fun W => tDrop (fun σ H Q => ∃ Z ρ, Dom H Z ∧ RepE X.K (hid H Z) σ ρ ∧ OutA X.K W0 H Z (cs ρ) fun vs H1 => spF X.K Cl n sem vs H1 Q (WE W σ)))
      hs hf hc takes0
      (fun W pn xe tk _ => pss_one (ps_expr (PE_weak (pe_callS (X := X.tr pn xe) (E := WE W) F hr hg hm hk hb (fun σ => passAt tk σ) (ha W0 pn xe).run hdb he hpl) fun σ H Q h => by
        obtain ⟨Z, ρ, hd, hr2, ho⟩ := h
        exact ⟨Z, ρ, hd, hr2, ho⟩) hsw))
      (fun a oe cls d pn hz hfl => (hsu a oe pn).run)) fun D σ H ⟨Z, ρ, r, o⟩ => by
    unfold sTry0 at o
    refine ⟨ZO Z σ ρ, vE ρ, r.domO, r.v, ?_⟩
    cases hcs : cs (vE ρ) with
    | bad => rw [hcs] at o; exact o.elim
    | exc x => rw [hcs] at o; exact o.elim
    | ok ds =>
      rw [hcs] at o
      dsimp only at o
      refine fun vs H1 e1 hv => spF_go (hn _ ds hcs) (r.domO.mono e1) hv (fun d hse v H2 e2 hv2 => ?_) (fun x hse H2 e2 => ?_) fun hse => ?_
      · rw [hse] at o
        exact o _ H2 (r.mono (e1.trans e2)) (hid_mono (e1.trans e2))
      · rw [hse] at o
        dsimp only at o
        by_cases hx : x = n0
        · rw [if_pos hx] at o
          subst hx
          exact ⟨true, hex, fun _ a ha2 => ⟨Z, ρ, r.mono (e1.trans e2), OutS.grow o (e1.trans e2)⟩, fun z => (by cases z)⟩
        · rw [if_neg hx] at o
          exact o.elim
      · rw [hse] at o
        exact o.elim⟩
/-- try: f(..) except C as en: return three tests -/
def sTryB (j n0 : Nat) (sem : Sem1) (cs : Env → R (List D)) : CS := fun ρ => match cs (vE ρ) with
  | .ok ds => (match sem ds with
    | .ok d => .nx ρ
    | .exc x => if x = n0 then (match ρ[j]? with
      | some .non => .rt (.bool true)
      | _ => .bad) else .bad
    | .bad => .bad)
  | _ => .bad
theorem sm_tryB {j n0 n : Nat} {en fn Cn : Str} {Cl : Nat → Addr} {c : Addr} {k : Nat} {f : Addr} {fd : FuncData} {ps : List Str} {sem : Sem1} {cs : Env → R (List D)} {b0 : Stmt} {pf cp ep np hp pos : Pos}
    (hs : X.stack = X.env :: X.outer) (hf : X.env.frame = some X.env.locals) (hN : X.N.Nodup) (hj : X.N[j]? = some en) (hln : X.env.kindOf en = some .local) (hc : Names X Cn (.ref c))
    (F : FnOk X.prog X.w X.K X.mg X.base (L2.CX X.prog X.w) k f fd ps (spF X.K Cl n sem)) (hr : Room k X.A) (hg : Gl X fn) (hm : X.mg fn = some (.ref f)) (hk : PySem.W.keepIn X.K (.ref f) = true) (hb : Binds X.K fd ps [])
    (ha : ∀ (W : WX) (pn : List (Addr × Obj)) (xe : Value → Shared → Prop), Ar (X.tr pn xe) W (e :: es) cs) (hn : ∀ ρ ds, cs ρ = .ok ds → ds.length = n) (hdb : (fn == ("__debug__" : Str)) = false)
    (hex : PySem.W.exmOne X.K (.ref (Cl n0)) (.ref c) = some true)
    (hsu : ∀ (a : Addr) (oe : Obj) (pn : List (Addr × Obj)), Zc (.ref (Cl n0)) none oe → (∃ vs, oe.data = .fields vs) → PSs (X.suite a ((a, oe) :: pn)) [b0] (tRet (tGood j a true true false)))
    (he : starEach (e :: es) X.env = (false, eval e X.env) :: starEach es X.env := by rfl) (hpl : (backTo cp (starEach es X.env)).any (·.1) = false := by rfl)
    (hsw : swapsWith (.Call (.Name fn pf) (e :: es) [] cp) none ep.line X.env = pure false := by rfl) :
    Sm X W0 (.Try [.Expr (.Call (.Name fn pf) (e :: es) [] cp) ep] [.ExceptHandler (some (.Name Cn np)) (some en) [b0] hp] [] [] pos) (sTryB j n0 sem cs) :=
  ⟨PS_weak (ps_try_as (i := j) (Wout := fun _ _ _ _ => False) (ts := fun a cls d D σ H => (cls = .ref (Cl n0) ∧ d = none) ∧ tRet (tGood j a true true false) D σ H)
      (tb := fun W => tDrop (fun σ H Q => ∃ Z ρ, Dom H Z ∧ RepE X.K (hid H Z) σ ρ ∧ OutA X.K W0 H Z (cs ρ) fun vs H1 => spF X.K Cl n sem vs H1 Q (WE W σ)))
      hs hf hN hj hln hc takes0
      (fun W pn xe tk _ => pss_one (ps_expr (PE_weak (pe_callS (X := X.tr pn xe) (E := WE W) F hr hg hm hk hb (fun σ => passAt tk σ) (ha W0 pn xe).run hdb he hpl) fun σ H Q h => by
        obtain ⟨Z, ρ, hd, hr2, ho⟩ := h
        exact ⟨Z, ρ, hd, hr2, ho⟩) hsw))
      (fun a oe cls d pn hz hfl => ⟨fun pins s σ H D I ⟨⟨e1, e2⟩, h⟩ => by
        subst e1; subst e2
        exact (hsu a oe pn hz hfl).run pins s σ H D I h⟩)) fun D σ H ⟨Z, ρ, r, o⟩ => by
    unfold sTryB at o
    refine ⟨ZO Z σ ρ, vE ρ, r.domO, r.v, ?_⟩
    cases hcs : cs (vE ρ) with
    | bad => rw [hcs] at o; exact o.elim
    | exc x => rw [hcs] at o; exact o.elim
    | ok ds =>
      rw [hcs] at o
      dsimp only at o
      refine fun vs H1 e1 hv => spF_go (hn _ ds hcs) (r.domO.mono e1) hv (fun d hse v H2 e2 hv2 => ?_) (fun x hse H2 e2 => ?_) fun hse => ?_
      · rw [hse] at o
        exact o _ H2 (r.mono (e1.trans e2)) (hid_mono (e1.trans e2))
      · rw [hse] at o
        dsimp only at o
        by_cases hx : x = n0
        · rw [if_pos hx] at o
          subst hx
          split at o
          · rename_i hnon
            have hjl : j < σ.length := Nat.lt_of_lt_of_le (List.getElem?_eq_some_iff.mp hnon).1 r.len
            refine ⟨true, hex, fun _ a ha2 => ⟨⟨rfl, rfl⟩, good_of (by rw [List.getElem?_set_self hjl]) ?_⟩, fun z => (by cases z)⟩
            exact o (.bl true) H2 ((hid_same).trans (e1.trans e2)) (.bl true)
          · exact o.elim
        · rw [if_neg hx] at o
          exact o.elim
      · rw [hse] at o
        exact o.elim⟩
end
end PL

set_option linter.all false
namespace PG
abbrev Pt := Int × Int
def Bd (B : Int) (p : Pt) : Prop := -B ≤ p.1 ∧ p.1 ≤ B ∧ -B ≤ p.2 ∧ p.2 ≤ B
def turn (a b c : Pt) : Int := (b.1 - a.1) * (c.2 - a.2) - (b.2 - a.2) * (c.1 - a.1)
/-- the point at a place, round -/
def at_ (l : List Pt) (i : Nat) : Pt := l.getD i (0, 0)
def nx (l : List Pt) (i : Nat) : Pt := at_ l (i % l.length)
def min2 (i j : Int) : Int := if j < i then j else i
def max2 (i j : Int) : Int := if j > i then j else i
def onB (a b c : Pt) : Bool := decide (turn a b c = 0) && (decide (min2 a.1 b.1 ≤ c.1) && decide (c.1 ≤ max2 a.1 b.1)) && (decide (min2 a.2 b.2 ≤ c.2) && decide (c.2 ≤ max2 a.2 b.2))
def crossT (a b : Pt) : Int := a.1 * b.2 - a.2 * b.1
def area (l : List Pt) : Int := ((List.range l.length).map fun i => crossT (at_ l i) (nx l (i + 1))).sum
def ltP (p q : Pt) : Bool := decide (p.1 < q.1 ∨ (p.1 = q.1 ∧ p.2 < q.2))
def minP (x : Pt) (xs : List Pt) : Pt := xs.foldl (fun a y => if ltP y a = true then y else a) x
def minL (l : List Pt) : Pt := match l with
  | [] => (0, 0)
  | p :: ps => minP p ps
def rot (l : List Pt) (k : Nat) : List Pt := l.drop k ++ l.take k
def orient (l : List Pt) : List Pt := if area l < 0 then l.reverse else l
def inOrder (l : List Pt) : List Pt := rot (orient l) ((orient l).idxOf (minL (orient l)))
def meetL (a b c d : Pt) : Bool := (onB a b c || onB a b d || onB c d a || onB c d b) || (!decide (turn a b c * turn a b d ≥ 0) && decide (turn c d a * turn c d b < 0))
def turns (l : List Pt) : List Int := (List.range l.length).map fun i => turn (at_ l i) (nx l (i + 1)) (nx l (i + 2))
/-- no two sides without a common corner meet -/
def simpleL (l : List Pt) : Bool := (List.range l.length).all fun i => (List.range (l.length - (i + 2))).all fun k =>
  (decide ((i + 2 + k + 1) % l.length = i) || !meetL (at_ l i) (nx l (i + 1)) (at_ l (i + 2 + k)) (nx l (i + 2 + k + 1)))
def good (l : List Pt) : Bool := decide l.Nodup && !decide (0 ∈ turns l) && simpleL l
def mixedN (c k : Int) : Int :=
  let d := (c + 7919 * k + 1) * 48271 % 2147483647
  (d * d + 7 * d + k) % 2147483629
def mixed (ns : List Int) (k : Nat) : Int := mixedN (ns.getD k 0) k
def drawn (n k : Int) : Int :=
  let d := (n + 104729 * k + 17) * 69621 % 2147483647
  (d * d + 3 * d + k) % 2147483629
def spots (n w : Int) (many : Nat) : List Pt := (List.range many).map fun (k : Nat) => (drawn n (2 * (k : Int)) % w, drawn n (2 * (k : Int) + 1) % w)
def prv (l : List Pt) (i : Nat) : Pt := if i = 0 then at_ l (l.length - 1) else at_ l (i - 1)
def trim1 (l : List Pt) : List Pt := ((List.range l.length).filter fun i => !decide (turn (prv l i) (at_ l i) (nx l (i + 1)) = 0)).map (at_ l)
def trim : Nat → List Pt → List Pt
  | 0, l => l
  | n + 1, l => if l.length = (trim1 l).length then l else trim n (trim1 l)
def saw0 (n w : Int) : List Pt :=
  let lows := 1 + n % 5
  let highs := 1 + n / 5 % 5
  let far := 1 + max2 lows highs
  [(0, 0)] ++ ((List.range lows.toNat).map fun (k : Nat) => (1 + (k : Int), -1 - drawn n (k : Int) % w)) ++ [(far, 0)] ++
    ((List.range highs.toNat).map fun (k : Nat) => (far - 1 - (k : Int), 1 + drawn n (9 + (k : Int)) % w))
def saw (n w : Int) : List Pt := trim 20 (saw0 n w)
def base (n w : Int) : List Pt :=
  let s := spots (n / 2) w (3 + n / 2 % 5).toNat
  if n % 2 = 1 ∨ good s = false then saw (n / 2) w else s
def plot (n w : Int) : List Pt := inOrder ((base n w).map fun p => (p.1 - n / 512 % 3 * w / 4, p.2))
end PG

set_option linter.all false
set_option maxHeartbeats 1000000
namespace PG
/-! the saw keeps its shape when it is trimmed -/
def keepF (a : Pt) : List Pt → Pt → List Pt
  | [], _ => []
  | [c], z => if turn a c z = 0 then [] else [c]
  | c :: d :: r, z => (if turn a c d = 0 then [] else [c]) ++ keepF c (d :: r) z
theorem keepF_sub (z : Pt) : ∀ (l : List Pt) (a : Pt), (keepF a l z).Sublist l
  | [], a => List.Sublist.refl _
  | [c], a => by
    unfold keepF
    split
    · exact List.nil_sublist _
    · exact List.Sublist.refl _
  | c :: d :: r, a => by
    unfold keepF
    have ih := keepF_sub z (d :: r) c
    split
    · exact List.Sublist.cons _ ih
    · exact List.Sublist.cons₂ _ ih
theorem keepF_app (z c : Pt) (B : List Pt) : ∀ (A : List Pt) (a : Pt), keepF a (A ++ c :: B) z = keepF a A c ++ keepF ((a :: A).getLast (List.cons_ne_nil _ _)) (c :: B) z
  | [], a => rfl
  | [d], a => by
    show (if turn a d c = 0 then [] else [d]) ++ keepF d (c :: B) z = _
    rfl
  | d :: e :: r, a => by
    have ih := keepF_app z c B (e :: r) d
    show (if turn a d e = 0 then [] else [d]) ++ keepF d (e :: r ++ c :: B) z = _
    rw [ih]
    show _ = ((if turn a d e = 0 then [] else [d]) ++ keepF d (e :: r) c) ++ _
    rw [List.append_assoc]
    rfl
/-- the triples of a ring, from a place on -/
theorem filter_from (l : List Pt) (z : Pt) (n : Nat) : ∀ (r : List Pt) (k : Nat) (a : Pt), l.drop k = r → l.length = n → (∀ (h : k < n), prv l k = a) → (nx l n = z) →
    ((List.range' k r.length).filter fun i => !decide (turn (prv l i) (at_ l i) (nx l (i + 1)) = 0)).map (at_ l) = keepF a r z := by
  intro r
  induction r with
  | nil => intros; rfl
  | cons c r ih =>
    intro k a hr hn hp hz
    have hk : k < l.length := by
      have := congrArg List.length hr
      rw [List.length_drop, List.length_cons] at this
      omega
    have hat : at_ l k = c := by
      unfold at_
      rw [List.getD_eq_getElem?_getD]
      have : l[k]? = some c := by
        have := congrArg (fun x => x[0]?) hr
        simpa using this
      rw [this]; rfl
    have hdrop : l.drop (k + 1) = r := by
      rw [← List.tail_drop, hr]; rfl
    rw [List.length_cons, List.range'_succ]
    have hprv : prv l (k + 1) = c := by
      unfold prv
      rw [if_neg (by omega), Nat.add_sub_cancel, hat]
    have ih2 := ih (k + 1) c hdrop hn (fun _ => hprv) hz
    cases r with
    | nil =>
      have hlen : k + 1 = n := by
        have := congrArg List.length hdrop
        rw [List.length_drop, List.length_nil] at this
        omega
      unfold keepF
      have hz' : nx l (k + 1) = z := by rw [hlen]; exact hz
      rw [List.filter_cons, hp (by omega), hat, hz']
      by_cases h : turn a c z = 0 <;> simp [h, hat]
    | cons d r =>
      have hk1 : k + 1 < l.length := by
        have := congrArg List.length hdrop
        rw [List.length_drop, List.length_cons] at this
        omega
      have hnx : nx l (k + 1) = d := by
        unfold nx at_
        rw [Nat.mod_eq_of_lt hk1, List.getD_eq_getElem?_getD]
        have : l[k + 1]? = some d := by
          have := congrArg (fun x => x[0]?) hdrop
          simpa using this
        rw [this]; rfl
      unfold keepF
      rw [List.filter_cons, hp (by omega), hat, hnx]
      by_cases h : turn a c d = 0
      · simp only [h, decide_true, Bool.not_true, Bool.false_eq_true, if_false, if_true, List.nil_append]
        exact ih2
      · simp only [h, decide_false, Bool.not_false, if_true, if_false, List.map_cons, hat, List.cons_append, List.nil_append]
        rw [ih2]
theorem trim1_keep (p : Pt) (r : List Pt) : trim1 (p :: r) = keepF ((p :: r).getLast (List.cons_ne_nil _ _)) (p :: r) p := by
  unfold trim1
  rw [List.range_eq_range']
  refine filter_from (p :: r) p (p :: r).length (p :: r) 0 _ rfl rfl (fun _ => ?_) ?_
  · unfold prv at_
    rw [if_pos rfl, List.getLast_eq_getElem, List.getD_eq_getElem?_getD, List.getElem?_eq_getElem (by simp)]
    rfl
  · unfold nx
    rw [Nat.mod_self]
    rfl
/-- a chain whose corners all lie straight is straight -/
def Asc (l : List Pt) : Prop := l.Pairwise fun p q => p.1 < q.1
theorem straight (z : Pt) : ∀ (L : List Pt) (a c : Pt), Asc (a :: c :: L ++ [z]) → keepF a (c :: L) z = [] → ∀ q ∈ c :: L ++ [z], turn a c q = 0
  | [], a, c, hs, hk, q, hq => by
    have h0 : turn a c z = 0 := by
      unfold keepF at hk
      split at hk
      · assumption
      · cases hk
    rcases List.mem_cons.mp hq with e | e
    · subst e; unfold turn; grind
    · have : q = z := by simpa using e
      subst this; exact h0
  | d :: L, a, c, hs, hk, q, hq => by
    unfold keepF at hk
    obtain ⟨hk1, hk2⟩ := List.append_eq_nil_iff.mp hk
    have h0 : turn a c d = 0 := by
      split at hk1
      · assumption
      · cases hk1
    have hs' : Asc (c :: d :: L ++ [z]) := (List.pairwise_cons.mp hs).2
    have ih := straight z L c d hs' hk2
    rcases List.mem_cons.mp hq with e | e
    · subst e; unfold turn; grind
    · have h1 := ih q e
      have hcd : c.1 < d.1 := (List.pairwise_cons.mp hs').1 d (by simp)
      have key : (d.1 - c.1) * turn a c q = (q.1 - c.1) * turn a c d + (c.1 - a.1) * turn c d q := by unfold turn; grind
      rw [h0, h1, Int.mul_zero, Int.mul_zero, Int.add_zero] at key
      rcases Int.mul_eq_zero.mp key with h | h
      · omega
      · exact h
/-- the saw's shape -/
structure SawI (far : Int) (l L H : List Pt) : Prop where
  eq : l = (0, 0) :: L ++ (far, 0) :: H
  l0 : L ≠ []
  h0 : H ≠ []
  la : Asc L
  ha : Asc H.reverse
  lb : ∀ p ∈ L, 0 < p.1 ∧ p.1 < far ∧ p.2 < 0
  hb : ∀ p ∈ H, 0 < p.1 ∧ p.1 < far ∧ 0 < p.2
theorem keep_ne {a z : Pt} {L : List Pt} (hL : L ≠ []) (hs : Asc (a :: L ++ [z])) (ha : a.2 = 0) (hz : z.2 = 0) (hne : ∀ p ∈ L, p.2 ≠ 0) : keepF a L z ≠ [] := by
  intro h
  cases L with
  | nil => exact hL rfl
  | cons c L =>
    have h1 := straight z L a c hs h z (by simp)
    have h2 := hne c (List.mem_cons_self ..)
    have h3 : a.1 < z.1 := (List.pairwise_cons.mp hs).1 z (by simp)
    unfold turn at h1
    rw [ha, hz] at h1
    have : c.2 * (z.1 - a.1) = 0 := by grind
    rcases Int.mul_eq_zero.mp this with e | e
    · exact h2 e
    · omega
theorem keepF_rev (z : Pt) : ∀ (l : List Pt) (a : Pt), keepF z l.reverse a = (keepF a l z).reverse := by
  intro l
  induction l generalizing z with
  | nil => intro a; rfl
  | cons c l ih =>
    intro a
    cases l with
    | nil =>
      have : turn z c a = - turn a c z := by unfold turn; grind
      show (if turn z c a = 0 then [] else [c]) = (if turn a c z = 0 then [] else [c]).reverse
      by_cases h : turn a c z = 0
      · rw [if_pos h, if_pos (by omega)]; rfl
      · rw [if_neg h, if_neg (by omega)]; rfl
    | cons d r =>
      rw [List.reverse_cons, show (d :: r).reverse ++ [c] = (d :: r).reverse ++ c :: [] from rfl, keepF_app, ih]
      have hlast : (z :: (d :: r).reverse).getLast (List.cons_ne_nil _ _) = d := by
        simp [List.getLast_cons, List.getLast_append]
      rw [hlast]
      show (keepF c (d :: r) z).reverse ++ (if turn d c a = 0 then [] else [c]) = ((if turn a c d = 0 then [] else [c]) ++ keepF c (d :: r) z).reverse
      rw [List.reverse_append]
      have : turn d c a = - turn a c d := by unfold turn; grind
      congr 1
      by_cases h : turn a c d = 0
      · rw [if_pos h, if_pos (by omega)]; rfl
      · rw [if_neg h, if_neg (by omega)]; rfl
theorem SawI.trim1 {far : Int} {l L H : List Pt} (h : SawI far l L H) : SawI far (trim1 l) (keepF (0, 0) L (far, 0)) (keepF (far, 0) H (0, 0)) := by
  obtain ⟨h1, h2, h3, h4, h5, h6, h7⟩ := h
  have hfar : 0 < far := by
    cases L with
    | nil => exact absurd rfl h2
    | cons c L => have := h6 c (List.mem_cons_self ..); omega
  have sL : Asc ((0, 0) :: L ++ [(far, 0)]) := by
    unfold Asc
    rw [List.cons_append, List.pairwise_cons, List.pairwise_append]
    refine ⟨fun q hq => ?_, h4, List.pairwise_singleton _ _, fun p hp q hq => ?_⟩
    · rcases List.mem_append.mp hq with e | e
      · exact (h6 q e).1
      · rw [List.mem_singleton.mp e]; exact hfar
    · rw [List.mem_singleton.mp hq]; exact (h6 p hp).2.1
  have sH : Asc ((0, 0) :: H.reverse ++ [(far, 0)]) := by
    unfold Asc
    rw [List.cons_append, List.pairwise_cons, List.pairwise_append]
    refine ⟨fun q hq => ?_, h5, List.pairwise_singleton _ _, fun p hp q hq => ?_⟩
    · rcases List.mem_append.mp hq with e | e
      · exact (h7 q (List.mem_reverse.mp e)).1
      · rw [List.mem_singleton.mp e]; exact hfar
    · rw [List.mem_singleton.mp hq]; exact (h7 p (List.mem_reverse.mp hp)).2.1
  have kL := keep_ne h2 sL rfl rfl fun p hp => by have := h6 p hp; omega
  have kH := keep_ne (by simpa using h3) sH rfl rfl fun p hp => by have := h7 p (List.mem_reverse.mp hp); omega
  rw [keepF_rev] at kH
  refine ⟨?_, kL, fun e => kH (by rw [e]; rfl), h4.sublist (keepF_sub _ _ _), ?_, fun p hp => h6 p ((keepF_sub _ _ _).subset hp), fun p hp => h7 p ((keepF_sub _ _ _).subset hp)⟩
  · obtain ⟨c, L', rfl⟩ : ∃ c L', L = c :: L' := by cases L with | nil => exact absurd rfl h2 | cons c L' => exact ⟨c, L', rfl⟩
    obtain ⟨H', e, rfl⟩ : ∃ H' e, H = H' ++ [e] := ⟨H.dropLast, H.getLast h3, (List.dropLast_concat_getLast h3).symm⟩
    have hc := h6 c (List.mem_cons_self ..)
    have he := h7 e (by simp)
    rw [h1, List.cons_append, trim1_keep]
    have hlast : ((0, 0) :: (c :: L' ++ (far, 0) :: (H' ++ [e]))).getLast (List.cons_ne_nil _ _) = e := by
      simp [List.getLast_cons, List.getLast_append]
    rw [hlast]
    show (if turn e (0, 0) c = 0 then [] else [(0, 0)]) ++ keepF (0, 0) (c :: L' ++ (far, 0) :: (H' ++ [e])) (0, 0) = _
    have t0 : turn e (0, 0) c ≠ 0 := by
      unfold turn
      have q1 : 0 < e.2 * c.1 := Int.mul_pos he.2.2 hc.1
      have q2 : 0 < e.1 * (- c.2) := Int.mul_pos he.1 (by omega)
      intro h
      have : e.2 * c.1 + e.1 * (- c.2) = 0 := by grind
      omega
    rw [if_neg t0, keepF_app]
    obtain ⟨g, H2, hg⟩ : ∃ g H2, H' ++ [e] = g :: H2 := by
      cases H' with
      | nil => exact ⟨e, [], rfl⟩
      | cons g H2 => exact ⟨g, H2 ++ [e], rfl⟩
    have hgm := h7 g (by rw [hg]; exact List.mem_cons_self ..)
    rw [hg]
    obtain ⟨y, hy, hyl⟩ : ∃ y, ((0, 0) :: c :: L').getLast (List.cons_ne_nil _ _) = y ∧ y ∈ c :: L' := ⟨_, rfl, by
      rw [List.getLast_cons (List.cons_ne_nil _ _)]
      exact List.getLast_mem _⟩
    rw [hy]
    have hym := h6 y hyl
    show [(0, 0)] ++ (keepF (0, 0) (c :: L') (far, 0) ++ ((if turn y (far, 0) g = 0 then [] else [(far, 0)]) ++ keepF (far, 0) (g :: H2) (0, 0))) = _
    have t1 : turn y (far, 0) g ≠ 0 := by
      unfold turn
      have q1 : 0 < (far - y.1) * g.2 := Int.mul_pos (by omega) hgm.2.2
      have q2 : 0 < (far - g.1) * (- y.2) := Int.mul_pos (by omega) (by omega)
      intro h
      have : (far - y.1) * g.2 + (far - g.1) * (- y.2) = 0 := by simp only at h; grind
      omega
    rw [if_neg t1]
    simp
  · show (keepF (far, 0) H (0, 0)).reverse.Pairwise _
    exact List.Pairwise.sublist (List.reverse_sublist.mpr (keepF_sub _ _ _)) h5
theorem SawI.trim : ∀ (n : Nat) {far : Int} {l L H : List Pt}, SawI far l L H → ∃ L H, SawI far (trim n l) L H
  | 0, far, l, L, H, h => ⟨L, H, h⟩
  | n + 1, far, l, L, H, h => by
    unfold PG.trim
    split
    · exact ⟨L, H, h⟩
    · exact SawI.trim n h.trim1
theorem saw0_inv (n w : Int) (hw : 0 < w) : ∃ L H, SawI (1 + max2 (1 + n % 5) (1 + n / 5 % 5)) (saw0 n w) L H := by
  refine ⟨(List.range (1 + n % 5).toNat).map fun (k : Nat) => (1 + (k : Int), -1 - drawn n (k : Int) % w), (List.range (1 + n / 5 % 5).toNat).map fun (k : Nat) => (1 + max2 (1 + n % 5) (1 + n / 5 % 5) - 1 - (k : Int), 1 + drawn n (9 + (k : Int)) % w), ⟨?_, ?_, ?_, ?_, ?_, ?_, ?_⟩⟩
  · unfold saw0
    simp
  · intro h
    have := congrArg List.length h
    simp at this
    omega
  · intro h
    have := congrArg List.length h
    simp at this
    omega
  · unfold Asc
    rw [List.pairwise_map]
    exact List.Pairwise.imp (fun {a b} h => by simp only; omega) (List.pairwise_lt_range)
  · unfold Asc
    rw [List.pairwise_reverse, List.pairwise_map]
    exact List.Pairwise.imp (fun {a b} h => by simp only; omega) (List.pairwise_lt_range)
  · intro p hp
    obtain ⟨k, hk, rfl⟩ := List.mem_map.mp hp
    have hk := List.mem_range.mp hk
    have h1 := Int.emod_nonneg (drawn n k) (show w ≠ 0 by omega)
    have h2 : 1 + n % 5 ≤ max2 (1 + n % 5) (1 + n / 5 % 5) := by unfold max2; split <;> omega
    simp only
    omega
  · intro p hp
    obtain ⟨k, hk, rfl⟩ := List.mem_map.mp hp
    have hk := List.mem_range.mp hk
    have h1 := Int.emod_nonneg (drawn n (9 + k)) (show w ≠ 0 by omega)
    have h2 : 1 + n / 5 % 5 ≤ max2 (1 + n % 5) (1 + n / 5 % 5) := by unfold max2; split <;> omega
    simp only
    omega
theorem saw_inv (n w : Int) (hw : 0 < w) : ∃ L H, SawI (1 + max2 (1 + n % 5) (1 + n / 5 % 5)) (saw n w) L H := by
  obtain ⟨L, H, h⟩ := saw0_inv n w hw
  exact SawI.trim 20 h
theorem saw_ne (n w : Int) (hw : 0 < w) : saw n w ≠ [] := by
  obtain ⟨L, H, h⟩ := saw_inv n w hw
  rw [h.eq]
  exact List.cons_ne_nil _ _
end PG

set_option linter.all false
set_option maxHeartbeats 1000000
/-! PH: the monotone chain. -/
namespace PG
def cr (u v : Pt) : Int := u.1 * v.2 - u.2 * v.1
def sb (a b : Pt) : Pt := (b.1 - a.1, b.2 - a.2)
def LP (u : Pt) : Prop := 0 < u.1 ∨ (u.1 = 0 ∧ 0 < u.2)
def lx (p q : Pt) : Prop := p.1 < q.1 ∨ (p.1 = q.1 ∧ p.2 < q.2)
theorem turn_cr (a b c : Pt) : turn a b c = cr (sb a b) (sb a c) := rfl
theorem lp_sb {p q : Pt} (h : lx p q) : LP (sb p q) := by unfold lx at h; unfold LP sb; simp only; omega
theorem cr_le {u v w : Pt} (hu : LP u) (hv : LP v) (hw : LP w) (h1 : 0 ≤ cr u v) (h2 : 0 ≤ cr v w) : 0 ≤ cr u w := by
  have hu1 : 0 ≤ u.1 := by unfold LP at hu; omega
  have hw1 : 0 ≤ w.1 := by unfold LP at hw; omega
  rcases hv with hv | ⟨hv1, hv2⟩
  · have key : v.1 * cr u w = w.1 * cr u v + u.1 * cr v w := by unfold cr; grind
    have q1 := Int.mul_nonneg hw1 h1
    have q2 := Int.mul_nonneg hu1 h2
    by_cases h : 0 ≤ cr u w
    · exact h
    · have := Int.mul_neg_of_pos_of_neg hv (show cr u w < 0 by omega)
      omega
  · unfold cr at h2
    rw [hv1, Int.zero_mul] at h2
    have hw0 : w.1 = 0 := by
      by_cases h : w.1 = 0
      · exact h
      · have := Int.mul_pos hv2 (show 0 < w.1 by omega); omega
    have hw2 : 0 < w.2 := by unfold LP at hw; omega
    unfold cr
    rw [hw0, Int.mul_zero]
    have := Int.mul_nonneg hu1 (Int.le_of_lt hw2)
    omega
theorem cr_lt {u v w : Pt} (hu : LP u) (hv : LP v) (hw : LP w) (h1 : 0 < cr u v) (h2 : 0 ≤ cr v w) : 0 < cr u w := by
  have hu1 : 0 ≤ u.1 := by unfold LP at hu; omega
  have hw1 : 0 ≤ w.1 := by unfold LP at hw; omega
  have hup : 0 < u.1 := by
    by_cases h : 0 < u.1
    · exact h
    · have h0 : u.1 = 0 := by omega
      have hu2 : 0 < u.2 := by unfold LP at hu; omega
      unfold cr at h1
      rw [h0, Int.zero_mul] at h1
      have hv1 : 0 ≤ v.1 := by unfold LP at hv; omega
      have := Int.mul_nonneg (Int.le_of_lt hu2) hv1
      omega
  rcases hv with hv | ⟨hv1, hv2⟩
  · have key : v.1 * cr u w = w.1 * cr u v + u.1 * cr v w := by unfold cr; grind
    have q2 := Int.mul_nonneg hu1 h2
    have hpos : 0 < w.1 * cr u v + u.1 * cr v w := by
      by_cases h : 0 < w.1
      · have := Int.mul_pos h h1; omega
      · have hw0 : w.1 = 0 := by omega
        have hw2 : 0 < w.2 := by unfold LP at hw; omega
        have h3 : 0 < cr v w := by
          unfold cr
          rw [hw0, Int.mul_zero]
          have := Int.mul_pos hv hw2
          omega
        have := Int.mul_pos hup h3
        rw [hw0, Int.zero_mul]
        omega
    by_cases h : 0 < cr u w
    · exact h
    · have := Int.mul_nonpos_of_nonneg_of_nonpos (Int.le_of_lt hv) (show cr u w ≤ 0 by omega)
      omega
  · unfold cr at h2
    rw [hv1, Int.zero_mul] at h2
    have hw0 : w.1 = 0 := by
      by_cases h : w.1 = 0
      · exact h
      · have := Int.mul_pos hv2 (show 0 < w.1 by omega); omega
    have hw2 : 0 < w.2 := by unfold LP at hw; omega
    unfold cr
    rw [hw0, Int.mul_zero]
    have := Int.mul_pos hup hw2
    omega
theorem turn_tr {x a b s : Pt} (h1 : lx x a) (h2 : lx a b) (h3 : lx b s) (t1 : 0 < turn x a b) (t2 : 0 < turn a b s) : 0 < turn x a s := by
  have e1 : turn x a b = cr (sb x a) (sb a b) := by unfold turn cr sb; grind
  have e2 : turn a b s = cr (sb a b) (sb b s) := by unfold turn cr sb; grind
  have e3 : turn x a s = cr (sb x a) (sb a b) + cr (sb x a) (sb b s) := by unfold turn cr sb; grind
  rw [e1] at t1
  rw [e2] at t2
  have := cr_lt (lp_sb h1) (lp_sb h2) (lp_sb h3) t1 (Int.le_of_lt t2)
  omega
theorem lx_trans {a b c : Pt} (h1 : lx a b) (h2 : lx b c) : lx a c := by unfold lx at *; omega
theorem lx_irr {a : Pt} : ¬ lx a a := by unfold lx; omega
theorem lx_tri (a b : Pt) : lx a b ∨ a = b ∨ lx b a := by
  unfold lx
  by_cases h : a.1 = b.1 ∧ a.2 = b.2
  · exact .inr (.inl (Prod.ext h.1 h.2))
  · omega
def popR : List Pt → Pt → List Pt
  | b :: a :: r, s => if turn a b s ≤ 0 then popR (a :: r) s else b :: a :: r
  | st, _ => st
def chainR (st : List Pt) : List Pt → List Pt
  | [] => st
  | s :: l => chainR (s :: popR st s) l
def chain (l : List Pt) : List Pt := (chainR [] l).reverse
/-- strict turns, the top first -/
def Str : List Pt → Prop
  | c :: b :: a :: r => 0 < turn a b c ∧ Str (b :: a :: r)
  | _ => True
def Lef (pre : List Pt) : List Pt → Prop
  | b :: a :: r => (∀ q ∈ pre, 0 ≤ turn a b q) ∧ Lef pre (a :: r)
  | _ => True
def Dec (st : List Pt) : Prop := st.Pairwise fun p q => lx q p
/-- after popping -/
theorem pop_ok (pre : List Pt) (s : Pt) (hs : ∀ q ∈ pre, lx q s) : ∀ (r : List Pt) (b : Pt), Dec (b :: r) → Str (b :: r) → Lef pre (b :: r) → (∀ q ∈ b :: r, q ∈ pre) → (∀ q ∈ pre, ∀ z, (b :: r).getLast? = some z → q = z ∨ lx z q) → (∀ q ∈ pre, q = b ∨ lx b q → 0 ≤ turn b s q) →
    ∃ b' r', popR (b :: r) s = b' :: r' ∧ (b' :: r') <:+ (b :: r) ∧ Str (s :: b' :: r') ∧ (∀ q ∈ pre, 0 ≤ turn b' s q)
  | [], b, hd, hst, hl, hsub, hmin, hq => ⟨b, [], rfl, List.suffix_refl _, trivial, fun q hqp => hq q hqp (hmin q hqp b rfl)⟩
  | a :: r, b, hd, hst, hl, hsub, hmin, hq => by
    have hab : lx a b := (List.pairwise_cons.mp hd).1 a (List.mem_cons_self ..)
    have hbs : lx b s := hs b (hsub b (List.mem_cons_self ..))
    have has := lx_trans hab hbs
    unfold popR
    by_cases ht : turn a b s ≤ 0
    · rw [if_pos ht]
      have hasb : 0 ≤ turn a s b := by
        have : turn a s b = - turn a b s := by unfold turn; grind
        omega
      obtain ⟨b', r', e1, e2, e3, e4⟩ := pop_ok pre s hs r a (List.pairwise_cons.mp hd).2 (by
          cases r with
          | nil => exact trivial
          | cons x r => exact hst.2) hl.2 (fun q hm => hsub q (List.mem_cons_of_mem _ hm)) (fun q hm z hz => hmin q hm z (by rw [List.getLast?_cons_cons]; exact hz)) (fun q hqp hor => by
        have hL := hl.1 q hqp
        rcases lx_tri q b with h | h | h
        · -- between a and b
          rcases hor with e | hlt
          · subst e
            have : turn q s q = 0 := by unfold turn; grind
            omega
          · have := cr_le (lp_sb has) (lp_sb hab) (lp_sb hlt) hasb hL
            exact this
        · subst h
          exact hasb
        · have h2 := hq q hqp (.inr h)
          have key : turn a s q = turn b s q + turn a b q + turn a s b := by unfold turn; grind
          omega)
      exact ⟨b', r', e1, e2.trans (List.suffix_cons ..), e3, e4⟩
    · rw [if_neg ht]
      refine ⟨b, a :: r, rfl, List.suffix_refl _, ⟨by omega, hst⟩, fun q hqp => ?_⟩
      rcases lx_tri q b with h | h | h
      · have hL := hl.1 q hqp
        have e1 : turn a b q = cr (sb q b) (sb a b) := by unfold turn cr sb; grind
        have e2 : turn a b s = cr (sb a b) (sb b s) := by unfold turn cr sb; grind
        have e3 : turn b s q = cr (sb q b) (sb b s) := by unfold turn cr sb; grind
        rw [e3]
        exact cr_le (lp_sb h) (lp_sb hab) (lp_sb hbs) (by omega) (by omega)
      · exact hq q hqp (.inl h)
      · exact hq q hqp (.inr h)
theorem str_suf : ∀ {l : List Pt} {m : List Pt}, m <:+ l → Str l → Str m := by
  intro l
  induction l with
  | nil => intro m h _; rw [List.suffix_nil.mp h]; trivial
  | cons x l ih =>
    intro m h hs
    rcases List.suffix_cons_iff.mp h with e | e
    · rw [e]; exact hs
    · refine ih e ?_
      match l, hs with
      | [], _ => trivial
      | [_], _ => trivial
      | _ :: _ :: _, hs => exact hs.2
theorem lef_suf {pre : List Pt} : ∀ {l : List Pt} {m : List Pt}, m <:+ l → Lef pre l → Lef pre m := by
  intro l
  induction l with
  | nil => intro m h _; rw [List.suffix_nil.mp h]; trivial
  | cons x l ih =>
    intro m h hs
    rcases List.suffix_cons_iff.mp h with e | e
    · rw [e]; exact hs
    · refine ih e ?_
      match l, hs with
      | [], _ => trivial
      | _ :: _, hs => exact hs.2
/-- the new point is left of the old sides -/
theorem lef_new (s : Pt) : ∀ (r : List Pt) (b : Pt), Dec (b :: r) → lx b s → Str (s :: b :: r) → Lef [s] (b :: r)
  | [], b, _, _, _ => trivial
  | a :: r, b, hd, hb, hst => by
    have hab : lx a b := (List.pairwise_cons.mp hd).1 a (List.mem_cons_self ..)
    refine ⟨fun q hq => by rw [List.mem_singleton.mp hq]; exact Int.le_of_lt hst.1, ?_⟩
    refine lef_new s r a (List.pairwise_cons.mp hd).2 (lx_trans hab hb) ?_
    cases r with
    | nil => trivial
    | cons x r =>
      have hxa : lx x a := (List.pairwise_cons.mp (List.pairwise_cons.mp hd).2).1 x (List.mem_cons_self ..)
      exact ⟨turn_tr hxa hab hb hst.2.1 hst.1, hst.2.2⟩
theorem lef_both {p1 p2 : List Pt} : ∀ {l : List Pt}, Lef p1 l → Lef p2 l → Lef (p1 ++ p2) l
  | [], _, _ => trivial
  | [_], _, _ => trivial
  | b :: a :: r, h1, h2 => ⟨fun q hq => (List.mem_append.mp hq).elim (h1.1 q) (h2.1 q), lef_both h1.2 h2.2⟩
structure CI (st pre : List Pt) (p0 : Pt) : Prop where
  dec : Dec st
  str : Str st
  lef : Lef pre st
  sub : ∀ q ∈ st, q ∈ pre
  bot : st.getLast? = some p0
  min : ∀ q ∈ pre, q = p0 ∨ lx p0 q
  top : ∀ q ∈ pre, ∀ z, st.head? = some z → q = z ∨ lx q z
theorem CI.step {st pre : List Pt} {p0 s : Pt} (h : CI st pre p0) (hs : ∀ q ∈ pre, lx q s) : CI (s :: popR st s) (pre ++ [s]) p0 := by
  obtain ⟨h1, h2, h3, h4, h5, h6, h7⟩ := h
  cases st with
  | nil => cases h5
  | cons b r =>
    have hp0 : p0 ∈ pre := h4 p0 (List.mem_of_getLast? h5)
    obtain ⟨b', r', e1, e2, e3, e4⟩ := pop_ok pre s hs r b h1 h2 h3 h4 (fun q hq z hz => by
      rw [h5] at hz; cases hz; exact h6 q hq) (fun q hq hor => by
      have : q = b := by
        rcases h7 q hq b rfl with e | e
        · exact e
        · rcases hor with e2 | e2
          · exact e2
          · exact absurd (lx_trans e e2) lx_irr
      subst this
      have : turn q s q = 0 := by unfold turn; grind
      omega)
    rw [e1]
    have hd : Dec (b' :: r') := List.Pairwise.sublist e2.sublist h1
    have hsub : ∀ q ∈ b' :: r', q ∈ pre := fun q hq => h4 q (e2.subset hq)
    refine ⟨?_, e3, ?_, ?_, ?_, ?_, ?_⟩
    · exact List.pairwise_cons.mpr ⟨fun q hq => hs q (hsub q hq), hd⟩
    · refine ⟨fun q hq => ?_, lef_both (lef_suf e2 h3) (lef_new s r' b' hd (hs b' (hsub b' (List.mem_cons_self ..))) e3)⟩
      rcases List.mem_append.mp hq with e | e
      · exact e4 q e
      · rw [List.mem_singleton.mp e]
        have : turn b' s s = 0 := by unfold turn; grind
        omega
    · intro q hq
      rcases List.mem_cons.mp hq with e | e
      · rw [e]; simp
      · exact List.mem_append_left _ (hsub q e)
    · rw [List.getLast?_cons_cons]
      obtain ⟨t, ht⟩ := e2
      rw [← ht, List.getLast?_append] at h5
      cases hz : (b' :: r').getLast? with
      | none => simp at hz
      | some z => rw [hz] at h5; exact h5
    · intro q hq
      rcases List.mem_append.mp hq with e | e
      · exact h6 q e
      · rw [List.mem_singleton.mp e]; exact .inr (hs p0 hp0)
    · intro q hq z hz
      cases hz
      rcases List.mem_append.mp hq with e | e
      · exact .inr (hs q e)
      · exact .inl (List.mem_singleton.mp e)
theorem chainR_ok (p0 : Pt) : ∀ (l st pre : List Pt), CI st pre p0 → (pre ++ l).Pairwise lx → CI (chainR st l) (pre ++ l) p0
  | [], st, pre, h, _ => by rw [List.append_nil]; exact h
  | s :: l, st, pre, h, hp => by
    have hp2 := List.pairwise_append.mp hp
    have := chainR_ok p0 l (s :: popR st s) (pre ++ [s]) (h.step fun q hq => hp2.2.2 q hq s (List.mem_cons_self ..)) (by rw [List.append_assoc]; exact hp)
    rw [List.append_assoc] at this
    exact this
theorem chain_ci {p0 : Pt} {l : List Pt} (h : (p0 :: l).Pairwise lx) : CI (chainR [] (p0 :: l)) (p0 :: l) p0 := by
  refine chainR_ok p0 l [p0] [p0] ⟨List.pairwise_singleton _ _, trivial, trivial, fun q hq => hq, rfl, fun q hq => .inl (List.mem_singleton.mp hq), fun q hq z hz => ?_⟩ h
  cases hz
  exact .inl (List.mem_singleton.mp hq)
end PG

set_option linter.all false
set_option maxHeartbeats 1000000
/-! PH2: the two chains round. -/
namespace PG
theorem cr_lt2 {u v w : Pt} (hu : LP u) (hv : LP v) (hw : LP w) (h1 : 0 ≤ cr u v) (h2 : 0 < cr v w) : 0 < cr u w := by
  have h0 := cr_le hu hv hw h1 (Int.le_of_lt h2)
  by_cases h : 0 < cr u w
  · exact h
  · have e : cr u w = 0 := by omega
    -- w, u on one line: cr v u has the sign of cr v w
    have hu1 : 0 ≤ u.1 := by unfold LP at hu; omega
    have hw1 : 0 ≤ w.1 := by unfold LP at hw; omega
    by_cases hx : 0 < w.1
    · have key : w.1 * cr u v = v.1 * cr u w - u.1 * cr v w := by unfold cr; grind
      have q1 := Int.mul_nonneg (Int.le_of_lt hx) h1
      have q2 := Int.mul_nonneg hu1 (Int.le_of_lt h2)
      rw [e, Int.mul_zero] at key
      have hz : u.1 = 0 := by
        by_cases hz : u.1 = 0
        · exact hz
        · have := Int.mul_pos (show 0 < u.1 by omega) h2; omega
      have hu2 : 0 < u.2 := by unfold LP at hu; omega
      unfold cr at e
      rw [hz, Int.zero_mul] at e
      have := Int.mul_pos hu2 hx
      omega
    · have hw0 : w.1 = 0 := by omega
      have hw2 : 0 < w.2 := by unfold LP at hw; omega
      have e' := e
      unfold cr at e'
      rw [hw0, Int.mul_zero] at e'
      have hz : u.1 = 0 := by
        by_cases hz : u.1 = 0
        · exact hz
        · have := Int.mul_pos (show 0 < u.1 by omega) hw2; omega
      have hu2 : 0 < u.2 := by unfold LP at hu; omega
      unfold cr at h1 h2
      rw [hz, Int.zero_mul] at h1
      rw [hw0, Int.mul_zero] at h2
      have hv1 : 0 < v.1 := by
        by_cases hz : 0 < v.1
        · exact hz
        · have := Int.mul_nonpos_of_nonpos_of_nonneg (show v.1 ≤ 0 by omega) (Int.le_of_lt hw2); omega
      have := Int.mul_pos hu2 hv1
      omega
theorem cr_line {u x y : Pt} (hu : LP u) (h1 : cr u x = 0) (h2 : cr u y = 0) : cr x y = 0 := by
  rcases hu with h | ⟨h, h'⟩
  · have key : u.1 * cr x y = x.1 * cr u y - y.1 * cr u x := by unfold cr; grind
    rw [h1, h2, Int.mul_zero, Int.mul_zero] at key
    rcases Int.mul_eq_zero.mp (show u.1 * cr x y = 0 by omega) with e | e
    · omega
    · exact e
  · have key : u.2 * cr x y = x.2 * cr u y - y.2 * cr u x := by unfold cr; grind
    rw [h1, h2, Int.mul_zero, Int.mul_zero] at key
    rcases Int.mul_eq_zero.mp (show u.2 * cr x y = 0 by omega) with e | e
    · omega
    · exact e
theorem at_cons (p : Pt) (l : List Pt) (i : Nat) : at_ (p :: l) (i + 1) = at_ l i := by unfold at_; simp
theorem lef_at {pre : List Pt} : ∀ {st : List Pt}, Lef pre st → ∀ j, j + 1 < st.length → ∀ q ∈ pre, 0 ≤ turn (at_ st (j + 1)) (at_ st j) q
  | [], _, j, h, _, _ => by simp at h
  | [_], _, j, h, _, _ => by simp at h
  | b :: a :: r, hl, 0, _, q, hq => hl.1 q hq
  | b :: a :: r, hl, j + 1, h, q, hq => by
    rw [at_cons, at_cons]
    exact lef_at hl.2 j (by simpa using h) q hq
theorem str_at : ∀ {st : List Pt}, Str st → ∀ j, j + 2 < st.length → 0 < turn (at_ st (j + 2)) (at_ st (j + 1)) (at_ st j)
  | [], _, j, h => by simp at h
  | [_], _, j, h => by simp at h
  | [_, _], _, j, h => by simp at h; omega
  | c :: b :: a :: r, hs, 0, _ => hs.1
  | c :: b :: a :: r, hs, j + 1, h => by
    rw [at_cons, at_cons, at_cons]
    exact str_at hs.2 j (by simpa using h)
theorem at_getE {l : List Pt} {i : Nat} (h : i < l.length) : at_ l i = l[i] := by
  unfold at_
  rw [List.getD_eq_getElem?_getD, List.getElem?_eq_getElem h]; rfl
theorem at_mem {l : List Pt} {i : Nat} (h : i < l.length) : at_ l i ∈ l := by rw [at_getE h]; exact List.getElem_mem h
theorem mem_at {l : List Pt} {p : Pt} (h : p ∈ l) : ∃ i, i < l.length ∧ at_ l i = p := by
  obtain ⟨i, hi, e⟩ := List.getElem_of_mem h
  exact ⟨i, hi, by rw [at_getE hi, e]⟩
theorem at_rev {l : List Pt} {i : Nat} (h : i < l.length) : at_ l.reverse i = at_ l (l.length - 1 - i) := by
  rw [at_getE (by rw [List.length_reverse]; exact h), at_getE (by omega), List.getElem_reverse]
/-- a chain c of the points s; R: the order along it -/
structure Ch (R : Pt → Pt → Prop) (c s : List Pt) (p0 pl : Pt) : Prop where
  e : ∀ i, i + 1 < c.length → ∀ q ∈ s, 0 ≤ turn (at_ c i) (at_ c (i + 1)) q
  t : ∀ i, i + 2 < c.length → 0 < turn (at_ c i) (at_ c (i + 1)) (at_ c (i + 2))
  o : ∀ i j, i < j → j < c.length → R (at_ c i) (at_ c j)
  sub : ∀ q ∈ c, q ∈ s
  pos : 0 < c.length
  fst : at_ c 0 = p0
  lst : at_ c (c.length - 1) = pl
theorem CI.ch {st pre : List Pt} {p0 pl : Pt} (h : CI st pre p0) (hl : pl ∈ pre) (hm : ∀ q ∈ pre, q = pl ∨ lx q pl) : Ch lx st.reverse pre p0 pl := by
  have hpos : 0 < st.length := by
    cases st with
    | nil => have := h.bot; cases this
    | cons _ _ => simp
  refine ⟨fun i hi q hq => ?_, fun i hi => ?_, fun i j hij hj => ?_, fun q hq => h.sub q (List.mem_reverse.mp hq), by simpa using hpos, ?_, ?_⟩
  · rw [List.length_reverse] at hi
    rw [at_rev (by omega), at_rev (by omega)]
    have := lef_at h.lef (st.length - 1 - (i + 1)) (by omega) q hq
    rw [show st.length - 1 - (i + 1) + 1 = st.length - 1 - i by omega] at this
    exact this
  · rw [List.length_reverse] at hi
    rw [at_rev (by omega), at_rev (by omega), at_rev (by omega)]
    have := str_at h.str (st.length - 1 - (i + 2)) (by omega)
    rw [show st.length - 1 - (i + 2) + 2 = st.length - 1 - i by omega, show st.length - 1 - (i + 2) + 1 = st.length - 1 - (i + 1) by omega] at this
    exact this
  · rw [List.length_reverse] at hj
    rw [at_rev (by omega), at_rev (by omega), at_getE (by omega), at_getE (by omega)]
    exact List.pairwise_iff_getElem.mp h.dec _ _ (by omega) (by omega) (by omega)
  · rw [at_rev hpos, at_getE (by omega)]
    have := h.bot
    rw [List.getLast?_eq_getElem?, List.getElem?_eq_getElem (by omega)] at this
    simpa using this
  · rw [List.length_reverse, at_rev (by omega), show st.length - 1 - (st.length - 1) = 0 by omega]
    cases st with
    | nil => simp at hpos
    | cons z st =>
      have h1 := h.top pl hl z rfl
      have h2 := hm z (h.sub z (List.mem_cons_self ..))
      show z = pl
      rcases h1 with e | e
      · exact e.symm
      · rcases h2 with e2 | e2
        · exact e2
        · exact absurd (lx_trans e e2) lx_irr
def neg (p : Pt) : Pt := (-p.1, -p.2)
theorem turn_neg (a b c : Pt) : turn (neg a) (neg b) (neg c) = turn a b c := by unfold turn neg; grind
theorem neg_neg (p : Pt) : neg (neg p) = p := by unfold neg; simp
theorem lx_neg {a b : Pt} : lx (neg a) (neg b) ↔ lx b a := by unfold lx neg; simp only; omega
theorem at_neg (l : List Pt) (i : Nat) : at_ (l.map neg) i = neg (at_ l i) := by
  unfold at_
  rw [List.getD_eq_getElem?_getD, List.getD_eq_getElem?_getD, List.getElem?_map]
  cases l[i]? with
  | none => simp [neg]
  | some p => rfl
theorem popR_neg (s : Pt) : ∀ st : List Pt, popR (st.map neg) (neg s) = (popR st s).map neg
  | [] => rfl
  | [_] => rfl
  | b :: a :: r => by
    have ih := popR_neg s (a :: r)
    unfold popR
    rw [List.map_cons, List.map_cons]
    dsimp only
    rw [turn_neg]
    split
    · exact ih
    · rfl
theorem chainR_neg : ∀ (l st : List Pt), chainR (st.map neg) (l.map neg) = (chainR st l).map neg
  | [], st => rfl
  | s :: l, st => by
    show chainR (neg s :: popR (st.map neg) (neg s)) (l.map neg) = (chainR (s :: popR st s) l).map neg
    rw [popR_neg, ← List.map_cons, chainR_neg l]
theorem Ch.neg {R : Pt → Pt → Prop} {c s : List Pt} {p0 pl : Pt} (h : Ch R c s p0 pl) : Ch (fun a b => R (PG.neg a) (PG.neg b)) (c.map PG.neg) (s.map PG.neg) (PG.neg p0) (PG.neg pl) := by
  refine ⟨fun i hi q hq => ?_, fun i hi => ?_, fun i j hij hj => ?_, fun q hq => ?_, by simpa using h.pos, by rw [at_neg, h.fst], by rw [List.length_map, at_neg, h.lst]⟩
  · rw [List.length_map] at hi
    obtain ⟨z, hz, rfl⟩ := List.mem_map.mp hq
    rw [at_neg, at_neg, turn_neg]
    exact h.e i hi z hz
  · rw [List.length_map] at hi
    rw [at_neg, at_neg, at_neg, turn_neg]
    exact h.t i hi
  · rw [List.length_map] at hj
    rw [at_neg, at_neg, PG.neg_neg, PG.neg_neg]
    exact h.o i j hij hj
  · obtain ⟨z, hz, rfl⟩ := List.mem_map.mp hq
    exact List.mem_map.mpr ⟨z, h.sub z hz, rfl⟩
/-- up and down -/
theorem chains {p0 pl : Pt} {s : List Pt} (hs : s.Pairwise lx) (h0 : s.head? = some p0) (hl : s.getLast? = some pl) :
    Ch lx (chain s) s p0 pl ∧ Ch (fun a b => lx b a) (chain s.reverse) s pl p0 := by
  have m0 : p0 ∈ s := List.mem_of_head? h0
  have ml : pl ∈ s := List.mem_of_getLast? hl
  have min0 : ∀ q ∈ s, q = p0 ∨ lx p0 q := fun q hq => by
    cases s with
    | nil => cases h0
    | cons z s =>
      cases h0
      rcases List.mem_cons.mp hq with e | e
      · exact .inl e
      · exact .inr ((List.pairwise_cons.mp hs).1 q e)
  have maxl : ∀ q ∈ s, q = pl ∨ lx q pl := fun q hq => by
    obtain ⟨t, ht⟩ : ∃ t, s = t ++ [pl] := by
      rw [List.getLast?_eq_some_iff] at hl
      exact hl
    subst ht
    rcases List.mem_append.mp hq with e | e
    · exact .inr ((List.pairwise_append.mp hs).2.2 q e pl (List.mem_singleton.mpr rfl))
    · exact .inl (List.mem_singleton.mp e)
  constructor
  · cases s with
    | nil => cases h0
    | cons z s =>
      cases h0
      exact (chain_ci hs).ch ml maxl
  · have hs2 : (s.reverse.map neg).Pairwise lx := by
      rw [List.pairwise_map, List.pairwise_reverse]
      exact hs.imp fun {a b} h => lx_neg.mpr h
    have key : Ch lx (chain (s.reverse.map neg)) (s.reverse.map neg) (neg pl) (neg p0) := by
      have e : s.reverse.map neg = neg pl :: (s.reverse.map neg).tail := by
        have : s.reverse.head? = some pl := by rw [List.head?_reverse]; exact hl
        cases hr : s.reverse with
        | nil => rw [hr] at this; cases this
        | cons z r => rw [hr] at this; cases this; rfl
      rw [e] at hs2 ⊢
      refine (chain_ci hs2).ch ?_ fun q hq => ?_
      · rw [← e]
        exact List.mem_map.mpr ⟨p0, List.mem_reverse.mpr m0, rfl⟩
      · rw [← e] at hq
        obtain ⟨z, hz, rfl⟩ := List.mem_map.mp hq
        rcases min0 z (List.mem_reverse.mp hz) with e | e
        · exact .inl (by rw [e])
        · exact .inr (lx_neg.mpr e)
    have ec : (chain (s.reverse.map neg)).map neg = chain s.reverse := by
      unfold chain
      have := chainR_neg s.reverse []
      rw [List.map_nil] at this
      rw [this, ← List.map_reverse, List.map_map]
      refine (List.map_congr_left fun p _ => ?_).trans (List.map_id _)
      exact neg_neg p
    have kn := key.neg
    rw [ec, List.map_map, neg_neg, neg_neg] at kn
    refine ⟨fun i hi q hq => kn.e i hi q ?_, kn.t, fun i j hij hj => lx_neg.mp (kn.o i j hij hj), fun q hq => ?_, kn.pos, kn.fst, kn.lst⟩
    · exact List.mem_map.mpr ⟨q, List.mem_reverse.mpr hq, neg_neg q⟩
    · obtain ⟨z, hz, e⟩ := List.mem_map.mp (kn.sub q hq)
      have : z = q := by rw [← e]; exact (neg_neg z).symm
      rw [← this]
      exact List.mem_reverse.mp hz
/-- where the two chains meet -/
theorem joint {c1 c2 s : List Pt} {p0 pl : Pt} (h1 : Ch lx c1 s p0 pl) (h2 : Ch (fun a b => lx b a) c2 s pl p0) (k1 : 2 ≤ c1.length) (k2 : 2 ≤ c2.length) (hn : 3 < c1.length + c2.length - 1) :
    0 < turn (at_ c1 (c1.length - 2)) pl (at_ c2 1) := by
  have hl1 := h1.lst
  have hf2 := h2.fst
  have o1 := h1.o (c1.length - 2) (c1.length - 1) (by omega) (by omega)
  have o2 := h2.o 0 1 (by omega) (by omega)
  have e1 := h1.e (c1.length - 2) (by omega)
  have e2 := h2.e 0 (by omega)
  rw [show c1.length - 2 + 1 = c1.length - 1 by omega, hl1] at e1
  rw [hl1] at o1
  rw [hf2] at o2
  rw [show (0 : Nat) + 1 = 1 from rfl, hf2] at e2
  have mc : at_ c2 1 ∈ s := h2.sub _ (at_mem (by omega))
  have ma : at_ c1 (c1.length - 2) ∈ s := h1.sub _ (at_mem (by omega))
  generalize ha : at_ c1 (c1.length - 2) = a at *
  generalize hc : at_ c2 1 = c at *
  have h0 := e1 c mc
  by_cases hz : 0 < turn a pl c
  · exact hz
  · have hz0 : turn a pl c = 0 := by omega
    exfalso
    have hu := lp_sb o1
    have hw := lp_sb o2
    have ewu : cr (sb c pl) (sb a pl) = 0 := by
      have : cr (sb c pl) (sb a pl) = turn a pl c := by unfold cr sb turn; grind
      omega
    have line : ∀ q ∈ s, turn a pl q = 0 := fun q hq => by
      have g1 := e1 q hq
      have g2 := e2 q hq
      by_cases hlt : lx q pl
      · have hv := lp_sb hlt
        have f1 : turn a pl q = cr (sb q pl) (sb a pl) := by unfold cr sb turn; grind
        have f2 : turn pl c q = cr (sb c pl) (sb q pl) := by unfold cr sb turn; grind
        by_cases h3 : 0 < turn a pl q
        · have := cr_lt2 hw hv hu (by omega) (by omega)
          omega
        · omega
      · -- q = pl, or beyond: no q is beyond
        have : turn a pl q = cr (sb a pl) (sb pl q) := by unfold cr sb turn; grind
        have f2 : turn pl c q = - cr (sb c pl) (sb pl q) := by unfold cr sb turn; grind
        rcases lx_tri q pl with h | h | h
        · exact absurd h hlt
        · subst h; unfold turn; grind
        · have hv := lp_sb h
          by_cases h3 : 0 < turn a pl q
          · have h4 : 0 ≤ cr (sb c pl) (sb a pl) := by omega
            have := cr_lt2 hw hu hv h4 (by omega)
            omega
          · omega
    by_cases hk : 3 ≤ c1.length
    · have t := h1.t (c1.length - 3) (by omega)
      rw [show c1.length - 3 + 1 = c1.length - 2 by omega, show c1.length - 3 + 2 = c1.length - 1 by omega, ha, hl1] at t
      have := line (at_ c1 (c1.length - 3)) (h1.sub _ (at_mem (by omega)))
      have e : turn (at_ c1 (c1.length - 3)) a pl = turn a pl (at_ c1 (c1.length - 3)) := by unfold turn; grind
      omega
    · have t := h2.t 0 (by omega)
      rw [show (0 : Nat) + 1 = 1 from rfl, show (0 : Nat) + 2 = 2 from rfl, hf2, hc] at t
      have q1 := line c mc
      have q2 := line (at_ c2 2) (h2.sub _ (at_mem (by omega)))
      have f1 : cr (sb a pl) (sb pl c) = 0 := by
        have : cr (sb a pl) (sb pl c) = turn a pl c := by unfold cr sb turn; grind
        omega
      have f2 : cr (sb a pl) (sb pl (at_ c2 2)) = 0 := by
        have : cr (sb a pl) (sb pl (at_ c2 2)) = turn a pl (at_ c2 2) := by unfold cr sb turn; grind
        omega
      have := cr_line hu f1 f2
      rw [turn_cr] at t
      omega
end PG

set_option linter.all false
set_option maxHeartbeats 1000000
/-! PH3: the ring of the two chains. -/
namespace PG
theorem at_app1 {A B : List Pt} {i : Nat} (h : i < A.length) : at_ (A ++ B) i = at_ A i := by
  unfold at_
  rw [List.getD_eq_getElem?_getD, List.getD_eq_getElem?_getD, List.getElem?_append_left h]
theorem at_app2 {A B : List Pt} {j : Nat} : at_ (A ++ B) (A.length + j) = at_ B j := by
  unfold at_
  rw [List.getD_eq_getElem?_getD, List.getD_eq_getElem?_getD, List.getElem?_append_right (by omega)]
  congr 2
  omega
theorem at_drop {c : List Pt} {i : Nat} (h : i + 1 < c.length) : at_ c.dropLast i = at_ c i := by
  rw [at_getE (by rw [List.length_dropLast]; omega), at_getE (by omega), List.getElem_dropLast]
def ring (c1 c2 : List Pt) : List Pt := c1.dropLast ++ c2.dropLast
section
variable {c1 c2 s : List Pt} {p0 pl : Pt}
theorem ring_len (c1 c2 : List Pt) : (ring c1 c2).length = (c1.length - 1) + (c2.length - 1) := by
  unfold ring
  rw [List.length_append, List.length_dropLast, List.length_dropLast]
theorem ring_at1 {i : Nat} (h : i + 1 < c1.length) : at_ (ring c1 c2) i = at_ c1 i := by
  unfold ring
  rw [at_app1 (by rw [List.length_dropLast]; omega), at_drop h]
theorem ring_at2 {j : Nat} (h : j + 1 < c2.length) : at_ (ring c1 c2) (c1.length - 1 + j) = at_ c2 j := by
  unfold ring
  have := at_app2 (A := c1.dropLast) (B := c2.dropLast) (j := j)
  rw [List.length_dropLast] at this
  rw [this, at_drop h]
theorem ring_nx1 (h1 : Ch lx c1 s p0 pl) (h2 : Ch (fun a b => lx b a) c2 s pl p0) (k1 : 2 ≤ c1.length) (k2 : 2 ≤ c2.length) {i : Nat} (h : i + 1 < c1.length) : nx (ring c1 c2) (i + 1) = at_ c1 (i + 1) := by
  unfold nx
  rw [Nat.mod_eq_of_lt (by rw [ring_len]; omega)]
  by_cases hi : i + 2 < c1.length
  · exact ring_at1 hi
  · rw [show i + 1 = c1.length - 1 + 0 by omega, ring_at2 (by omega), Nat.add_zero, h1.lst, h2.fst]
theorem ring_nx2 (h1 : Ch lx c1 s p0 pl) (h2 : Ch (fun a b => lx b a) c2 s pl p0) (k1 : 2 ≤ c1.length) (k2 : 2 ≤ c2.length) {j : Nat} (h : j + 1 < c2.length) : nx (ring c1 c2) (c1.length - 1 + j + 1) = at_ c2 (j + 1) := by
  unfold nx
  by_cases hj : j + 2 < c2.length
  · rw [Nat.mod_eq_of_lt (by rw [ring_len]; omega), show c1.length - 1 + j + 1 = c1.length - 1 + (j + 1) by omega]
    exact ring_at2 hj
  · rw [show c1.length - 1 + j + 1 = (ring c1 c2).length by rw [ring_len]; omega, Nat.mod_self, ring_at1 (by omega), h1.fst, show j + 1 = c2.length - 1 by omega, h2.lst]
theorem ring_edge (h1 : Ch lx c1 s p0 pl) (h2 : Ch (fun a b => lx b a) c2 s pl p0) (k1 : 2 ≤ c1.length) (k2 : 2 ≤ c2.length) {i : Nat} (h : i < (ring c1 c2).length) : ∀ q ∈ s, 0 ≤ turn (at_ (ring c1 c2) i) (nx (ring c1 c2) (i + 1)) q := by
  intro q hq
  rw [ring_len] at h
  by_cases hi : i + 1 < c1.length
  · rw [ring_at1 hi, ring_nx1 h1 h2 k1 k2 hi]
    exact h1.e i hi q hq
  · obtain ⟨j, rfl⟩ : ∃ j, i = c1.length - 1 + j := ⟨i - (c1.length - 1), by omega⟩
    rw [ring_at2 (by omega), ring_nx2 h1 h2 k1 k2 (by omega)]
    exact h2.e j (by omega) q hq
theorem ring_turn (h1 : Ch lx c1 s p0 pl) (h2 : Ch (fun a b => lx b a) c2 s pl p0) (k1 : 2 ≤ c1.length) (k2 : 2 ≤ c2.length) (hn : 3 ≤ (ring c1 c2).length) {i : Nat} (h : i < (ring c1 c2).length) :
    0 < turn (at_ (ring c1 c2) i) (nx (ring c1 c2) (i + 1)) (nx (ring c1 c2) (i + 2)) := by
  rw [ring_len] at h hn
  have wrap : ∀ m, nx (ring c1 c2) (m + (ring c1 c2).length) = nx (ring c1 c2) m := fun m => by unfold nx; rw [Nat.add_mod_right]
  by_cases hi : i + 1 < c1.length
  · rw [ring_at1 hi, ring_nx1 h1 h2 k1 k2 hi]
    by_cases hi2 : i + 2 < c1.length
    · rw [show i + 2 = (i + 1) + 1 from rfl, ring_nx1 h1 h2 k1 k2 hi2]
      exact h1.t i hi2
    · rw [show i + 2 = c1.length - 1 + 0 + 1 by omega, ring_nx2 h1 h2 k1 k2 (j := 0) (by omega), show i + 1 = c1.length - 1 by omega, h1.lst, show i = c1.length - 2 by omega]
      exact joint h1 h2 k1 k2 (by omega)
  · obtain ⟨j, rfl⟩ : ∃ j, i = c1.length - 1 + j := ⟨i - (c1.length - 1), by omega⟩
    rw [ring_at2 (by omega), ring_nx2 h1 h2 k1 k2 (by omega)]
    by_cases hj : j + 2 < c2.length
    · rw [show c1.length - 1 + j + 2 = c1.length - 1 + (j + 1) + 1 by omega, ring_nx2 h1 h2 k1 k2 (by omega)]
      exact h2.t j hj
    · rw [show c1.length - 1 + j + 2 = 1 + (ring c1 c2).length by rw [ring_len]; omega, wrap, show (1 : Nat) = 0 + 1 from rfl, ring_nx1 h1 h2 k1 k2 (by omega), show j + (0 + 1) = c2.length - 1 by omega, h2.lst, show j = c2.length - 2 by omega]
      -- the same joint, seen from behind
      have n1 := h2.neg
      have n2 := h1.neg
      have n1' : Ch lx (c2.map neg) (s.map neg) (neg pl) (neg p0) := ⟨n1.e, n1.t, fun i j a b => by have := n1.o i j a b; exact lx_neg.mp (by simpa only [neg_neg, lx_neg] using this), n1.sub, n1.pos, n1.fst, n1.lst⟩
      have n2' : Ch (fun a b => lx b a) (c1.map neg) (s.map neg) (neg p0) (neg pl) := ⟨n2.e, n2.t, fun i j a b => by have := n2.o i j a b; exact lx_neg.mp (by simpa only [neg_neg, lx_neg] using this), n2.sub, n2.pos, n2.fst, n2.lst⟩
      have := joint n1' n2' (by simpa using k2) (by simpa using k1) (by simp only [List.length_map]; omega)
      rw [List.length_map, at_neg, at_neg, turn_neg] at this
      exact this
theorem ring_sub (h1 : Ch lx c1 s p0 pl) (h2 : Ch (fun a b => lx b a) c2 s pl p0) : ∀ q ∈ ring c1 c2, q ∈ s := by
  intro q hq
  unfold ring at hq
  rcases List.mem_append.mp hq with e | e
  · exact h1.sub q (List.dropLast_subset _ e)
  · exact h2.sub q (List.dropLast_subset _ e)
theorem ring_nodup (h1 : Ch lx c1 s p0 pl) (h2 : Ch (fun a b => lx b a) c2 s pl p0) (k1 : 2 ≤ c1.length) (k2 : 2 ≤ c2.length) : (ring c1 c2).Nodup := by
  have nd1 : c1.Nodup := by
    rw [List.nodup_iff_pairwise_ne, List.pairwise_iff_getElem]
    intro i j hi hj hij e
    have := h1.o i j hij hj
    rw [at_getE hi, at_getE hj, e] at this
    exact lx_irr this
  have nd2 : c2.Nodup := by
    rw [List.nodup_iff_pairwise_ne, List.pairwise_iff_getElem]
    intro i j hi hj hij e
    have := h2.o i j hij hj
    rw [at_getE hi, at_getE hj, e] at this
    exact lx_irr this
  unfold ring
  rw [List.nodup_append]
  refine ⟨nd1.sublist (List.dropLast_sublist _), nd2.sublist (List.dropLast_sublist _), fun a ha b hb e => ?_⟩
  subst e
  obtain ⟨i, hi, ei⟩ := mem_at ha
  obtain ⟨j, hj, ej⟩ := mem_at hb
  rw [List.length_dropLast] at hi hj
  rw [at_drop (by omega)] at ei ej
  have l1 : lx a pl := by
    have := h1.o i (c1.length - 1) (by omega) (by omega)
    rw [h1.lst, ei] at this
    exact this
  have l2 : lx p0 a := by
    have := h2.o j (c2.length - 1) (by omega) (by omega)
    rw [h2.lst, ej] at this
    exact this
  have hi0 : 0 < i := by
    by_cases h : i = 0
    · rw [h, h1.fst] at ei
      rw [ei] at l2
      exact absurd l2 lx_irr
    · omega
  have hj0 : 0 < j := by
    by_cases h : j = 0
    · rw [h, h2.fst] at ej
      rw [ej] at l1
      exact absurd l1 lx_irr
    · omega
  have t := h1.t (i - 1) (by omega)
  rw [show i - 1 + 1 = i by omega, show i - 1 + 2 = i + 1 by omega, ei] at t
  have hu := lp_sb (h1.o (i - 1) i (by omega) (by omega))
  have hv := lp_sb (h1.o i (i + 1) (by omega) (by omega))
  have hw := lp_sb (h2.o (j - 1) j (by omega) (by omega))
  rw [ei] at hu hv
  rw [ej] at hw
  have e1 := h2.e (j - 1) (by omega) (at_ c1 (i - 1)) (h1.sub _ (at_mem (by omega)))
  have e2 := h2.e (j - 1) (by omega) (at_ c1 (i + 1)) (h1.sub _ (at_mem (by omega)))
  rw [show j - 1 + 1 = j by omega, ej] at e1 e2
  generalize at_ c1 (i - 1) = x at *
  generalize at_ c1 (i + 1) = y at *
  generalize at_ c2 (j - 1) = z at *
  have f1 : turn x a y = cr (sb x a) (sb a y) := by unfold cr sb turn; grind
  have f2 : turn z a x = - cr (sb x a) (sb a z) := by unfold cr sb turn; grind
  have f3 : turn z a y = cr (sb a y) (sb a z) := by unfold cr sb turn; grind
  have := cr_lt hu hv hw (by omega) (by omega)
  omega
end
/-- the fan -/
theorem area_fan (l : List Pt) (p : Pt) (h : 0 < l.length) : area l = ((List.range l.length).map fun i => turn p (at_ l i) (nx l (i + 1))).sum := by
  have tel : ∀ (f : Nat → Int) (n : Nat), ((List.range n).map fun i => f (i + 1) - f i).sum = f n - f 0 := by
    intro f n
    induction n with
    | zero => simp
    | succ n ih => rw [List.range_succ, List.map_append, List.sum_append, ih]; simp; omega
  have add : ∀ (f g : Nat → Int) (n : Nat), ((List.range n).map fun i => f i + g i).sum = ((List.range n).map f).sum + ((List.range n).map g).sum := by
    intro f g n
    induction n with
    | zero => simp
    | succ n ih => rw [List.range_succ]; simp only [List.map_append, List.sum_append, ih]; simp; omega
  have key : ∀ i ∈ List.range l.length, turn p (at_ l i) (nx l (i + 1)) = crossT (at_ l i) (nx l (i + 1)) + ((fun k => crossT (nx l k) p) (i + 1) - (fun k => crossT (nx l k) p) i) := by
    intro i hi
    have hi := List.mem_range.mp hi
    have : at_ l i = nx l i := by unfold nx; rw [Nat.mod_eq_of_lt hi]
    simp only [this]
    unfold turn crossT
    grind
  have t := tel (fun k => crossT (nx l k) p) l.length
  rw [List.map_congr_left key, add]
  refine Eq.trans ?_ (congrArg (fun z => _ + z) t.symm)
  have : nx l l.length = nx l 0 := by unfold nx; rw [Nat.mod_self, Nat.zero_mod]
  show area l = _ + (crossT (nx l l.length) p - crossT (nx l 0) p)
  rw [this]
  unfold area
  omega
theorem sum_pos : ∀ (xs : List Int), (∀ x ∈ xs, 0 ≤ x) → (∃ x ∈ xs, 0 < x) → 0 < xs.sum
  | [], _, ⟨x, h, _⟩ => by cases h
  | y :: xs, h, ⟨x, hx, hp⟩ => by
    have nn : ∀ zs : List Int, (∀ z ∈ zs, 0 ≤ z) → 0 ≤ zs.sum := by
      intro zs
      induction zs with
      | nil => intro _; simp
      | cons z zs ih => intro hz; rw [List.sum_cons]; have := ih fun w hw => hz w (List.mem_cons_of_mem _ hw); have := hz z (List.mem_cons_self ..); omega
    rw [List.sum_cons]
    have h1 := h y (List.mem_cons_self ..)
    have h2 := nn xs fun z hz => h z (List.mem_cons_of_mem _ hz)
    rcases List.mem_cons.mp hx with e | e
    · omega
    · have := sum_pos xs (fun z hz => h z (List.mem_cons_of_mem _ hz)) ⟨x, e, hp⟩
      omega
theorem area_pos (l : List Pt) (hn : 3 ≤ l.length) (he : ∀ i, i < l.length → ∀ q ∈ l, 0 ≤ turn (at_ l i) (nx l (i + 1)) q) (ht : ∀ i, i < l.length → 0 < turn (at_ l i) (nx l (i + 1)) (nx l (i + 2))) : 0 < area l := by
  rw [area_fan l (at_ l 0) (by omega)]
  have rotT : ∀ a b c : Pt, turn a b c = turn b c a := fun a b c => by unfold turn; grind
  refine sum_pos _ (fun x hx => ?_) ⟨turn (at_ l 0) (at_ l 1) (nx l (1 + 1)), List.mem_map.mpr ⟨1, List.mem_range.mpr (by omega), rfl⟩, ?_⟩
  · obtain ⟨i, hi, rfl⟩ := List.mem_map.mp hx
    rw [rotT]
    exact he i (List.mem_range.mp hi) _ (at_mem (by omega))
  · have := ht 0 (by omega)
    have e : nx l (0 + 1) = at_ l 1 := by unfold nx; rw [Nat.mod_eq_of_lt (by omega)]
    rw [e] at this
    exact this
end PG

set_option Elab.async false
set_option linter.all false
set_option maxRecDepth 100000
namespace PL
open PySem
def b_p_turn : CS := (sRet (c2 gSub (c2 gMul (c2 gSub (c2 gIx (cVar 1) (cC (.int 0))) (c2 gIx (cVar 0) (cC (.int 0)))) (c2 gSub (c2 gIx (cVar 2) (cC (.int 1))) (c2 gIx (cVar 0) (cC (.int 1))))) (c2 gMul (c2 gSub (c2 gIx (cVar 1) (cC (.int 1))) (c2 gIx (cVar 0) (cC (.int 1)))) (c2 gSub (c2 gIx (cVar 2) (cC (.int 0))) (c2 gIx (cVar 0) (cC (.int 0)))))))
def m_p_turn : Sem1 := runP 3 b_p_turn
def b_p_lies_on : CS := (sSeq (sIf (c2 gNe (cA (pureS m_p_turn) (aCons (cVar 0) (aCons (cVar 1) (aCons (cVar 2) aNil)))) (cC (.int 0))) (sRet (cC (.bool false))) sNext)
 (sRet (cAnd (cChain gLe gLe (cA gMin (aCons (c2 gIx (cVar 0) (cC (.int 0))) (aCons (c2 gIx (cVar 1) (cC (.int 0))) aNil))) (c2 gIx (cVar 2) (cC (.int 0))) (cA gMax (aCons (c2 gIx (cVar 0) (cC (.int 0))) (aCons (c2 gIx (cVar 1) (cC (.int 0))) aNil)))) (cChain gLe gLe (cA gMin (aCons (c2 gIx (cVar 0) (cC (.int 1))) (aCons (c2 gIx (cVar 1) (cC (.int 1))) aNil))) (c2 gIx (cVar 2) (cC (.int 1))) (cA gMax (aCons (c2 gIx (cVar 0) (cC (.int 1))) (aCons (c2 gIx (cVar 1) (cC (.int 1))) aNil)))))))
def m_p_lies_on : Sem1 := runP 3 b_p_lies_on
def b_p_sign : CS := (sRet (c2 gSub (cA gInt (aCons (c2 gGt (cVar 0) (cC (.int 0))) aNil)) (cA gInt (aCons (c2 gLt (cVar 0) (cC (.int 0))) aNil))))
def m_p_sign : Sem1 := runP 1 b_p_sign
def b_p_meet : CS := (sSeq (sAsg2 2 3 (cVar 0))
 (sSeq (sAsg2 4 5 (cVar 1))
 (sSeq (sIf (cOr (cA (pureS m_p_lies_on) (aCons (cVar 2) (aCons (cVar 3) (aCons (cVar 4) aNil)))) (cOr (cA (pureS m_p_lies_on) (aCons (cVar 2) (aCons (cVar 3) (aCons (cVar 5) aNil)))) (cOr (cA (pureS m_p_lies_on) (aCons (cVar 4) (aCons (cVar 5) (aCons (cVar 2) aNil)))) (cA (pureS m_p_lies_on) (aCons (cVar 4) (aCons (cVar 5) (aCons (cVar 3) aNil))))))) (sRet (cC (.bool true))) sNext)
 (sSeq (sAsg 6 (c2 gLt (c2 gMul (cA (pureS m_p_sign) (aCons (cA (pureS m_p_turn) (aCons (cVar 2) (aCons (cVar 3) (aCons (cVar 4) aNil)))) aNil)) (cA (pureS m_p_sign) (aCons (cA (pureS m_p_turn) (aCons (cVar 2) (aCons (cVar 3) (aCons (cVar 5) aNil)))) aNil))) (cC (.int 0))))
 (sRet (cAnd (cVar 6) (c2 gLt (c2 gMul (cA (pureS m_p_sign) (aCons (cA (pureS m_p_turn) (aCons (cVar 4) (aCons (cVar 5) (aCons (cVar 2) aNil)))) aNil)) (cA (pureS m_p_sign) (aCons (cA (pureS m_p_turn) (aCons (cVar 4) (aCons (cVar 5) (aCons (cVar 3) aNil)))) aNil))) (cC (.int 0)))))))))
def m_p_meet : Sem1 := runP 7 b_p_meet
def b_p_sides_of : CS := (sRet (cLc (fun ρ => ((aCons (cVar 0) aNil) ρ).bind enumV) [1, 2] (tPair 1 2) (cC (.bool true)) (cA mkTup (aCons (cVar 2) (aCons (c2 gIx (cVar 0) (c2 gMod (c2 gAdd (cVar 1) (cC (.int 1))) (cA gLen (aCons (cVar 0) aNil)))) aNil)))))
def m_p_sides_of : Sem1 := runP 3 b_p_sides_of
def b_p_twice_area_of : CS := (sRet (cA gSum (aCons (cLc (cSrc (cA (pureS m_p_sides_of) (aCons (cVar 0) aNil))) [1, 2] (tPair 1 2) (cC (.bool true)) (c2 gSub (c2 gMul (c2 gIx (cVar 1) (cC (.int 0))) (c2 gIx (cVar 2) (cC (.int 1)))) (c2 gMul (c2 gIx (cVar 1) (cC (.int 1))) (c2 gIx (cVar 2) (cC (.int 0)))))) aNil)))
def m_p_twice_area_of : Sem1 := runP 3 b_p_twice_area_of
def b_p_is_spot : CS := (sSeq (sIf (cOr (cNot (c1 (gIsi "tuple") (cVar 0))) (c2 gNe (cA gLen (aCons (cVar 0) aNil)) (cC (.int 2)))) (sRet (cC (.bool false))) sNext)
 (sRet (cA gAll (aCons (cLc (cSrc (cVar 0)) [1] (tName 1) (cC (.bool true)) (cAnd (c1 (gIsi "int") (cVar 1)) (cAnd (cNot (c1 (gIsi "bool") (cVar 1))) (cChain gLe gLe (c1 gNeg (cC (.int 100))) (cVar 1) (cC (.int 100)))))) aNil))))
def m_p_is_spot : Sem1 := runP 2 b_p_is_spot
def b_p_turns_of : CS := (sSeq (sAsg 1 (cA gLen (aCons (cVar 0) aNil)))
 (sRet (cLc (fun ρ => ((aCons (cVar 1) aNil) ρ).bind rng1) [2] (tName 2) (cC (.bool true)) (cA (pureS m_p_turn) (aCons (c2 gIx (cVar 0) (cVar 2)) (aCons (c2 gIx (cVar 0) (c2 gMod (c2 gAdd (cVar 2) (cC (.int 1))) (cVar 1))) (aCons (c2 gIx (cVar 0) (c2 gMod (c2 gAdd (cVar 2) (cC (.int 2))) (cVar 1))) aNil)))))))
def m_p_turns_of : Sem1 := runP 3 b_p_turns_of
def b_p_is_simple : CS := (sSeq (sAsg 1 (cA (pureS m_p_sides_of) (aCons (cVar 0) aNil)))
 (sSeq (sAsg 2 (cA gLen (aCons (cVar 1) aNil)))
 (sSeq (sFor (fun ρ => ((aCons (cVar 2) aNil) ρ).bind rng1) (sName 3) (sFor (fun ρ => ((aCons (c2 gAdd (cVar 3) (cC (.int 2))) (aCons (cVar 2) aNil)) ρ).bind rng2) (sName 4) (sIf (cAnd (c2 gNe (c2 gMod (c2 gAdd (cVar 4) (cC (.int 1))) (cVar 2)) (cVar 3)) (cA (pureS m_p_meet) (aCons (c2 gIx (cVar 1) (cVar 3)) (aCons (c2 gIx (cVar 1) (cVar 4)) aNil)))) (sRet (cC (.bool false))) sNext)))
 (sRet (cC (.bool true))))))
def m_p_is_simple : Sem1 := runP 5 b_p_is_simple
def b_p_is_plot : CS := (sSeq (sIf (cOr (cNot (c1 (gIsi "tuple") (cVar 0))) (cOr (cNot (cChain gLe gLe (cC (.int 3)) (cA gLen (aCons (cVar 0) aNil)) (cC (.int 12)))) (cNot (cA gAll (aCons (cLc (cSrc (cVar 0)) [1] (tName 1) (cC (.bool true)) (cA (pureS m_p_is_spot) (aCons (cVar 1) aNil))) aNil))))) (sRet (cC (.bool false))) sNext)
 (sSeq (sIf (cOr (c2 gLt (c1 gLenSet (cVar 0)) (cA gLen (aCons (cVar 0) aNil))) (cOr (c2 gIn (cC (.int 0)) (cA (pureS m_p_turns_of) (aCons (cVar 0) aNil))) (cNot (cA (pureS m_p_is_simple) (aCons (cVar 0) aNil))))) (sRet (cC (.bool false))) sNext)
 (sRet (cAnd (c2 gGt (cA (pureS m_p_twice_area_of) (aCons (cVar 0) aNil)) (cC (.int 0))) (c2 gEq (c2 gIx (cVar 0) (cC (.int 0))) (cA gMin (aCons (cVar 0) aNil)))))))
def m_p_is_plot : Sem1 := runP 2 b_p_is_plot
def b_p_is_round : CS := (sRet (cAnd (cA (pureS m_p_is_plot) (aCons (cVar 0) aNil)) (cA gAll (aCons (cLc (cSrc (cA (pureS m_p_turns_of) (aCons (cVar 0) aNil))) [1] (tName 1) (cC (.bool true)) (c2 gGt (cVar 1) (cC (.int 0)))) aNil))))
def m_p_is_round : Sem1 := runP 2 b_p_is_round
def b_l_cell_at : CS := (sSeq (sIf (c2 gLt (cVar 1) (cA gLen (aCons (cVar 0) aNil))) (sRet (c2 gIx (cVar 0) (cVar 1))) sNext)
 (sRet (cC (.int 0))))
def m_l_cell_at : Sem1 := runP 2 b_l_cell_at
def b_l_mixed : CS := (sSeq (sAsg 2 (c2 gMod (c2 gMul (c2 gAdd (c2 gAdd (cA (pureS m_l_cell_at) (aCons (cVar 0) (aCons (cVar 1) aNil))) (c2 gMul (cC (.int 7919)) (cVar 1))) (cC (.int 1))) (cC (.int 48271))) (cC (.int 2147483647))))
 (sRet (c2 gMod (c2 gAdd (c2 gAdd (c2 gMul (cVar 2) (cVar 2)) (c2 gMul (cC (.int 7)) (cVar 2))) (cVar 1)) (cC (.int 2147483629)))))
def m_l_mixed : Sem1 := runP 3 b_l_mixed
def b_l_drawn : CS := (sSeq (sAsg 2 (c2 gMod (c2 gMul (c2 gAdd (c2 gAdd (cVar 0) (c2 gMul (cC (.int 104729)) (cVar 1))) (cC (.int 17))) (cC (.int 69621))) (cC (.int 2147483647))))
 (sRet (c2 gMod (c2 gAdd (c2 gAdd (c2 gMul (cVar 2) (cVar 2)) (c2 gMul (cC (.int 3)) (cVar 2))) (cVar 1)) (cC (.int 2147483629)))))
def m_l_drawn : Sem1 := runP 3 b_l_drawn
def b_l_number : CS := (sRet (cAnd (c1 (gIsi "int") (cVar 0)) (cAnd (cNot (c1 (gIsi "bool") (cVar 0))) (cChain gLe gLe (cVar 1) (cVar 0) (cVar 2)))))
def m_l_number : Sem1 := runP 3 b_l_number
def b_l_turn : CS := (sRet (c2 gSub (c2 gMul (c2 gSub (c2 gIx (cVar 1) (cC (.int 0))) (c2 gIx (cVar 0) (cC (.int 0)))) (c2 gSub (c2 gIx (cVar 2) (cC (.int 1))) (c2 gIx (cVar 0) (cC (.int 1))))) (c2 gMul (c2 gSub (c2 gIx (cVar 1) (cC (.int 1))) (c2 gIx (cVar 0) (cC (.int 1)))) (c2 gSub (c2 gIx (cVar 2) (cC (.int 0))) (c2 gIx (cVar 0) (cC (.int 0)))))))
def m_l_turn : Sem1 := runP 3 b_l_turn
def b_l_on : CS := (sSeq (sIf (c2 gNe (cA (pureS m_l_turn) (aCons (cVar 0) (aCons (cVar 1) (aCons (cVar 2) aNil)))) (cC (.int 0))) (sRet (cC (.bool false))) sNext)
 (sRet (cAnd (cChain gLe gLe (cA gMin (aCons (c2 gIx (cVar 0) (cC (.int 0))) (aCons (c2 gIx (cVar 1) (cC (.int 0))) aNil))) (c2 gIx (cVar 2) (cC (.int 0))) (cA gMax (aCons (c2 gIx (cVar 0) (cC (.int 0))) (aCons (c2 gIx (cVar 1) (cC (.int 0))) aNil)))) (cChain gLe gLe (cA gMin (aCons (c2 gIx (cVar 0) (cC (.int 1))) (aCons (c2 gIx (cVar 1) (cC (.int 1))) aNil))) (c2 gIx (cVar 2) (cC (.int 1))) (cA gMax (aCons (c2 gIx (cVar 0) (cC (.int 1))) (aCons (c2 gIx (cVar 1) (cC (.int 1))) aNil)))))))
def m_l_on : Sem1 := runP 3 b_l_on
def b_l_next : CS := (sRet (c2 gIx (cVar 0) (c2 gMod (c2 gAdd (cVar 1) (cVar 2)) (cA gLen (aCons (cVar 0) aNil)))))
def m_l_next : Sem1 := runP 3 b_l_next
def b_l_area : CS := (sSeq (sAsg 1 (cC (.int 0)))
 (sSeq (sFor (fun ρ => ((aCons (cVar 0) aNil) ρ).bind enumV) (sPair 2 3) (sSeq (sAsg 4 (cA (pureS m_l_next) (aCons (cVar 0) (aCons (cVar 2) (aCons (cC (.int 1)) aNil)))))
 (sAsg 1 (c2 gSub (c2 gAdd (cVar 1) (c2 gMul (c2 gIx (cVar 3) (cC (.int 0))) (c2 gIx (cVar 4) (cC (.int 1))))) (c2 gMul (c2 gIx (cVar 3) (cC (.int 1))) (c2 gIx (cVar 4) (cC (.int 0))))))))
 (sRet (cVar 1))))
def m_l_area : Sem1 := runP 5 b_l_area
def b_l_in_order : CS := (sSeq (sAsg 1 (cA gList (aCons (cVar 0) aNil)))
 (sSeq (sIf (c2 gLt (cA (pureS m_l_area) (aCons (cVar 1) aNil)) (cC (.int 0))) (sAsg 1 (c1 gRev (cVar 1))) sNext)
 (sSeq (sAsg 2 (cM "list" gIndex (cVar 1) (aCons (cA gMin (aCons (cVar 1) aNil)) aNil)))
 (sRet (cA gTuple (aCons (c2 gAdd (cSl (cVar 1) (oSome (cVar 2)) oNone) (cSl (cVar 1) oNone (oSome (cVar 2)))) aNil))))))
def m_l_in_order : Sem1 := runP 3 b_l_in_order
def b_l_meet : CS := (sSeq (sIf (cOr (cA (pureS m_l_on) (aCons (cVar 0) (aCons (cVar 1) (aCons (cVar 2) aNil)))) (cOr (cA (pureS m_l_on) (aCons (cVar 0) (aCons (cVar 1) (aCons (cVar 3) aNil)))) (cOr (cA (pureS m_l_on) (aCons (cVar 2) (aCons (cVar 3) (aCons (cVar 0) aNil)))) (cA (pureS m_l_on) (aCons (cVar 2) (aCons (cVar 3) (aCons (cVar 1) aNil))))))) (sRet (cC (.bool true))) sNext)
 (sSeq (sIf (c2 gGe (c2 gMul (cA (pureS m_l_turn) (aCons (cVar 0) (aCons (cVar 1) (aCons (cVar 2) aNil)))) (cA (pureS m_l_turn) (aCons (cVar 0) (aCons (cVar 1) (aCons (cVar 3) aNil))))) (cC (.int 0))) (sRet (cC (.bool false))) sNext)
 (sRet (c2 gLt (c2 gMul (cA (pureS m_l_turn) (aCons (cVar 2) (aCons (cVar 3) (aCons (cVar 0) aNil)))) (cA (pureS m_l_turn) (aCons (cVar 2) (aCons (cVar 3) (aCons (cVar 1) aNil))))) (cC (.int 0))))))
def m_l_meet : Sem1 := runP 4 b_l_meet
def b_l_turns : CS := (sSeq (sNil 1)
 (sSeq (sFor (fun ρ => ((aCons (cVar 0) aNil) ρ).bind enumV) (sPair 2 3) (sApp 1 (cA (pureS m_l_turn) (aCons (cVar 3) (aCons (cA (pureS m_l_next) (aCons (cVar 0) (aCons (cVar 2) (aCons (cC (.int 1)) aNil)))) (aCons (cA (pureS m_l_next) (aCons (cVar 0) (aCons (cVar 2) (aCons (cC (.int 2)) aNil)))) aNil))))))
 (sRet (cVar 1))))
def m_l_turns : Sem1 := runP 4 b_l_turns
def b_l_is_good : CS := (sSeq (sAsg 1 (cA gLen (aCons (cVar 0) aNil)))
 (sSeq (sIf (cOr (c2 gLt (c1 gLenSet (cVar 0)) (cVar 1)) (c2 gIn (cC (.int 0)) (cA (pureS m_l_turns) (aCons (cVar 0) aNil)))) (sRet (cC (.bool false))) sNext)
 (sSeq (sFor (fun ρ => ((aCons (cVar 1) aNil) ρ).bind rng1) (sName 2) (sFor (fun ρ => ((aCons (c2 gAdd (cVar 2) (cC (.int 2))) (aCons (cVar 1) aNil)) ρ).bind rng2) (sName 3) (sIf (c2 gNe (c2 gMod (c2 gAdd (cVar 3) (cC (.int 1))) (cVar 1)) (cVar 2)) (sSeq (sAsg 4 (c2 gIx (cVar 0) (cVar 3)))
 (sSeq (sAsg 5 (cA (pureS m_l_next) (aCons (cVar 0) (aCons (cVar 3) (aCons (cC (.int 1)) aNil)))))
 (sIf (cA (pureS m_l_meet) (aCons (c2 gIx (cVar 0) (cVar 2)) (aCons (cA (pureS m_l_next) (aCons (cVar 0) (aCons (cVar 2) (aCons (cC (.int 1)) aNil)))) (aCons (cVar 4) (aCons (cVar 5) aNil))))) (sRet (cC (.bool false))) sNext))) sNext)))
 (sRet (cC (.bool true))))))
def m_l_is_good : Sem1 := runP 6 b_l_is_good
def b_l_spots : CS := (sRet (cLc (fun ρ => ((aCons (cVar 2) aNil) ρ).bind rng1) [3] (tName 3) (cC (.bool true)) (cA mkTup (aCons (c2 gMod (cA (pureS m_l_drawn) (aCons (cVar 0) (aCons (c2 gMul (cC (.int 2)) (cVar 3)) aNil))) (cVar 1)) (aCons (c2 gMod (cA (pureS m_l_drawn) (aCons (cVar 0) (aCons (c2 gAdd (c2 gMul (cC (.int 2)) (cVar 3)) (cC (.int 1))) aNil))) (cVar 1)) aNil)))))
def m_l_spots : Sem1 := runP 4 b_l_spots
def b_l_saw : CS := (sSeq (sAsg 2 (c2 gAdd (cC (.int 1)) (c2 gMod (cVar 0) (cC (.int 5)))))
 (sSeq (sAsg 3 (c2 gAdd (cC (.int 1)) (c2 gMod (c2 gDiv (cVar 0) (cC (.int 5))) (cC (.int 5)))))
 (sSeq (sAsg 4 (c2 gAdd (cC (.int 1)) (cA gMax (aCons (cVar 2) (aCons (cVar 3) aNil)))))
 (sSeq (sAsg 5 (c2 gAdd (c2 gAdd (cA mkLst (aCons (cA mkTup (aCons (cC (.int 0)) (aCons (cC (.int 0)) aNil))) aNil)) (cLc (fun ρ => ((aCons (cVar 2) aNil) ρ).bind rng1) [7] (tName 7) (cC (.bool true)) (cA mkTup (aCons (c2 gAdd (cC (.int 1)) (cVar 7)) (aCons (c2 gSub (c1 gNeg (cC (.int 1))) (c2 gMod (cA (pureS m_l_drawn) (aCons (cVar 0) (aCons (cVar 7) aNil))) (cVar 1))) aNil))))) (cA mkLst (aCons (cA mkTup (aCons (cVar 4) (aCons (cC (.int 0)) aNil))) aNil))))
 (sSeq (sAsg 5 (c2 gAdd (cVar 5) (cLc (fun ρ => ((aCons (cVar 3) aNil) ρ).bind rng1) [7] (tName 7) (cC (.bool true)) (cA mkTup (aCons (c2 gSub (c2 gSub (cVar 4) (cC (.int 1))) (cVar 7)) (aCons (c2 gAdd (cC (.int 1)) (c2 gMod (cA (pureS m_l_drawn) (aCons (cVar 0) (aCons (c2 gAdd (cC (.int 9)) (cVar 7)) aNil))) (cVar 1))) aNil))))))
 (sSeq (sAsg 6 (cA mkLst aNil))
 (sSeq (whileL (c2 gNe (cA gLen (aCons (cVar 6) aNil)) (cA gLen (aCons (cVar 5) aNil))) (sSeq (sAsg 6 (cVar 5))
 (sAsg 5 (cLc (fun ρ => ((aCons (cVar 6) aNil) ρ).bind enumV) [8, 9] (tPair 8 9) (c2 gNe (cA (pureS m_l_turn) (aCons (c2 gIx (cVar 6) (c2 gSub (cVar 8) (cC (.int 1)))) (aCons (cVar 9) (aCons (cA (pureS m_l_next) (aCons (cVar 6) (aCons (cVar 8) (aCons (cC (.int 1)) aNil)))) aNil)))) (cC (.int 0))) (cVar 9)))) FUEL)
 (sRet (cVar 5)))))))))
def m_l_saw : Sem1 := runP 10 b_l_saw
def b_l_plot : CS := (sSeq (sAsg 2 (cA (pureS m_l_spots) (aCons (c2 gDiv (cVar 0) (cC (.int 2))) (aCons (cVar 1) (aCons (c2 gAdd (cC (.int 3)) (c2 gMod (c2 gDiv (cVar 0) (cC (.int 2))) (cC (.int 5)))) aNil)))))
 (sSeq (sIf (cOr (c2 gEq (c2 gMod (cVar 0) (cC (.int 2))) (cC (.int 1))) (cNot (cA (pureS m_l_is_good) (aCons (cVar 2) aNil)))) (sAsg 2 (cA (pureS m_l_saw) (aCons (c2 gDiv (cVar 0) (cC (.int 2))) (aCons (cVar 1) aNil)))) sNext)
 (sSeq (sAsg 3 (c2 gDiv (c2 gMul (c2 gMod (c2 gDiv (cVar 0) (cC (.int 512))) (cC (.int 3))) (cVar 1)) (cC (.int 4))))
 (sRet (cA (pureS m_l_in_order) (aCons (cLc (cSrc (cVar 2)) [4, 5] (tPair 4 5) (cC (.bool true)) (cA mkTup (aCons (c2 gSub (cVar 4) (cVar 3)) (aCons (cVar 5) aNil)))) aNil))))))
def m_l_plot : Sem1 := runP 6 b_l_plot
def b_l_is_spot : CS := (sSeq (sIf (cOr (cNot (c1 (gIsi "tuple") (cVar 0))) (c2 gNe (cA gLen (aCons (cVar 0) aNil)) (cC (.int 2)))) (sRet (cC (.bool false))) sNext)
 (sRet (cAnd (cA (pureS m_l_number) (aCons (c2 gIx (cVar 0) (cC (.int 0))) (aCons (c1 gNeg (cC (.int 100))) (aCons (cC (.int 100)) aNil)))) (cA (pureS m_l_number) (aCons (c2 gIx (cVar 0) (cC (.int 1))) (aCons (c1 gNeg (cC (.int 100))) (aCons (cC (.int 100)) aNil)))))))
def m_l_is_spot : Sem1 := runP 1 b_l_is_spot
def b_l_is_plot : CS := (sSeq (sIf (cOr (cNot (c1 (gIsi "tuple") (cVar 0))) (cNot (cChain gLe gLe (cC (.int 3)) (cA gLen (aCons (cVar 0) aNil)) (cC (.int 12))))) (sRet (cC (.bool false))) sNext)
 (sSeq (sIf (c2 gNe (cLc (cSrc (cVar 0)) [1] (tName 1) (cNot (cA (pureS m_l_is_spot) (aCons (cVar 1) aNil))) (cVar 1)) (cA mkLst aNil)) (sRet (cC (.bool false))) sNext)
 (sRet (cAnd (cA (pureS m_l_is_good) (aCons (cVar 0) aNil)) (cAnd (c2 gGt (cA (pureS m_l_area) (aCons (cVar 0) aNil)) (cC (.int 0))) (c2 gEq (c2 gIx (cVar 0) (cC (.int 0))) (cA gMin (aCons (cVar 0) aNil))))))))
def m_l_is_plot : Sem1 := runP 2 b_l_is_plot
def b_l_chain : CS := (sSeq (sNil 1)
 (sSeq (sFor (cSrc (cVar 0)) (sName 2) (sSeq (whileL (cAnd (c2 gGt (cA gLen (aCons (cVar 1) aNil)) (cC (.int 1))) (c2 gLe (cA (pureS m_l_turn) (aCons (c2 gIx (cVar 1) (c1 gNeg (cC (.int 2)))) (aCons (c2 gIx (cVar 1) (c1 gNeg (cC (.int 1)))) (aCons (cVar 2) aNil)))) (cC (.int 0)))) (sPop 1) FUEL)
 (sApp 1 (cVar 2))))
 (sRet (cSl (cVar 1) oNone (oSome (c1 gNeg (cC (.int 1))))))))
def m_l_chain : Sem1 := runP 3 b_l_chain
def b_l_around : CS := (sSeq (sAsg 1 (c1 gSortSet (cVar 0)))
 (sSeq (sAsg 2 (c2 gAdd (cA (pureS m_l_chain) (aCons (cVar 1) aNil)) (cA (pureS m_l_chain) (aCons (c1 gRev (cVar 1)) aNil))))
 (sSeq (sIf (c2 gLt (cA gLen (aCons (cVar 2) aNil)) (cC (.int 3))) (sRet (cC .none)) sNext)
 (sRet (cA (pureS m_l_in_order) (aCons (cVar 2) aNil))))))
def m_l_around : Sem1 := runP 3 b_l_around
def b_l_round : CS := (sSeq (sAsg 2 (cA (pureS m_l_around) (aCons (cA (pureS m_l_spots) (aCons (cVar 0) (aCons (cVar 1) (aCons (c2 gAdd (cC (.int 3)) (c2 gMod (cVar 0) (cC (.int 6)))) aNil)))) aNil)))
 (sSeq (sIf (c2 gIsN (cVar 2) (cC .none)) (sRet (cA mkTup (aCons (cA mkTup (aCons (cC (.int 0)) (aCons (cC (.int 0)) aNil))) (aCons (cA mkTup (aCons (cC (.int 1)) (aCons (cC (.int 0)) aNil))) (aCons (cA mkTup (aCons (cC (.int 0)) (aCons (c2 gAdd (cC (.int 1)) (c2 gMod (cVar 0) (cC (.int 3)))) aNil))) aNil))))) sNext)
 (sRet (cVar 2))))
def m_l_round : Sem1 := runP 3 b_l_round
def b_l_many_corners : CS := (sSeq (sAsg 1 (cA mkLst (aCons (cA mkTup (aCons (cC (.int 3)) (aCons (cC (.int 0)) aNil))) (aCons (cA mkTup (aCons (cC (.int 6)) (aCons (cC (.int 3)) aNil))) (aCons (cA mkTup (aCons (cC (.int 3)) (aCons (cC (.int 3)) aNil))) (aCons (cA mkTup (aCons (cC (.int 3)) (aCons (cC (.int 6)) aNil))) (aCons (cA mkTup (aCons (cC (.int 0)) (aCons (cC (.int 3)) aNil))) (aCons (cA mkTup (aCons (c1 gNeg (cC (.int 3))) (aCons (cC (.int 3)) aNil))) aNil))))))))
 (sSeq (sAsg 1 (c2 gAdd (cVar 1) (cLc (cSrc (cVar 1)) [6, 7] (tPair 6 7) (cC (.bool true)) (cA mkTup (aCons (c1 gNeg (cVar 6)) (aCons (c1 gNeg (cVar 7)) aNil))))))
 (sSeq (sAsg 2 (cA mkTup (aCons (c2 gSub (c2 gMod (c2 gDiv (cVar 0) (cC (.int 3))) (cC (.int 90))) (cC (.int 50))) (aCons (c2 gSub (c2 gMod (c2 gDiv (cVar 0) (cC (.int 270))) (cC (.int 90))) (cC (.int 50))) aNil))))
 (sSeq (sNil 3)
 (sSeq (sFor (fun ρ => ((aCons (cVar 1) aNil) ρ).bind enumV) (sPair 4 5) (sSeq (sApp 3 (cVar 2))
 (sSeq (sIf (cAnd (c2 gEq (cVar 4) (cC (.int 1))) (c2 gGt (c2 gMod (cVar 0) (cC (.int 3))) (cC (.int 0)))) (sApp 3 (cA mkTup (aCons (c2 gAdd (c2 gIx (cVar 2) (cC (.int 0))) (cC (.int 2))) (aCons (c2 gAdd (c2 gIx (cVar 2) (cC (.int 1))) (cC (.int 2))) aNil)))) sNext)
 (sSeq (sIf (cAnd (c2 gEq (cVar 4) (cC (.int 7))) (c2 gGt (c2 gMod (cVar 0) (cC (.int 3))) (cC (.int 1)))) (sApp 3 (cA mkTup (aCons (c2 gSub (c2 gIx (cVar 2) (cC (.int 0))) (cC (.int 2))) (aCons (c2 gSub (c2 gIx (cVar 2) (cC (.int 1))) (cC (.int 2))) aNil)))) sNext)
 (sAsg 2 (cA mkTup (aCons (c2 gAdd (c2 gIx (cVar 2) (cC (.int 0))) (c2 gIx (cVar 5) (cC (.int 0)))) (aCons (c2 gAdd (c2 gIx (cVar 2) (cC (.int 1))) (c2 gIx (cVar 5) (cC (.int 1)))) aNil))))))))
 (sRet (cA (pureS m_l_in_order) (aCons (cVar 3) aNil))))))))
def m_l_many_corners : Sem1 := runP 8 b_l_many_corners
def b_l_odd : CS := (sSeq (sAsg 1 (cA mkLst (aCons (c1 gNeg (cC (.int 1))) (aCons (cC (.int 0)) (aCons (cC (.int 1)) (aCons (cC (.int 101)) (aCons (c1 gNeg (cC (.int 101))) (aCons (cC (.bool true)) (aCons (cC (.bool false)) (aCons (cC .none) (aCons (cC (.str "")) (aCons (cC (.str "0")) (aCons (cA mkTup aNil) (aCons (cA mkLst aNil) (aCons (cA mkTup (aCons (cC (.int 0)) aNil)) (aCons (cA mkTup (aCons (cC (.int 0)) (aCons (cC (.int 1)) aNil))) (aCons (cA mkTup (aCons (cC (.int 1)) (aCons (cC (.int 1)) aNil))) (aCons (cA mkTup (aCons (cC (.int 0)) (aCons (cC (.int 101)) aNil))) (aCons (cA mkTup (aCons (cC (.bool true)) (aCons (cC (.int 0)) aNil))) (aCons (cA mkLst (aCons (cC (.int 0)) (aCons (cC (.int 1)) aNil))) aNil))))))))))))))))))))
 (sRet (c2 gIx (c2 gAdd (cVar 1) (cA mkLst (aCons (cA mkTup (aCons (cC (.int 0)) (aCons (cC .none) aNil))) (aCons (cA mkTup (aCons (cA mkTup (aCons (cC (.int 0)) (aCons (cC (.int 0)) aNil))) aNil)) (aCons (cA mkTup (aCons (cC (.int 0)) (aCons (cC (.int 0)) (aCons (cC (.int 0)) aNil)))) (aCons (cC (.int 2)) (aCons (cA mkTup (aCons (c1 gNeg (cC (.int 1))) (aCons (cC (.int 5)) aNil))) (aCons (cA mkTup (aCons (cC (.int 2)) (aCons (cC (.int 2)) aNil))) (aCons (cA mkTup (aCons (cC (.str "0")) (aCons (cC (.int 1)) aNil))) aNil))))))))) (c2 gMod (cVar 0) (cC (.int 25))))))
def m_l_odd : Sem1 := runP 2 b_l_odd
def b_l_spoilt (rec : Sem1) : CS := (sSeq (sIf (cAnd (c2 gGt (cVar 2) (cC (.int 0))) (cAnd (c1 (gIsi "tuple") (cVar 0)) (cAnd (c2 gGt (cA gLen (aCons (cVar 0) aNil)) (cC (.int 0))) (c2 gGt (c2 gMod (cVar 1) (cC (.int 6))) (cC (.int 0)))))) (sSeq (sAsg 3 (c2 gMod (c2 gDiv (cVar 1) (cC (.int 6))) (cA gLen (aCons (cVar 0) aNil))))
 (sSeq (sAsg 4 (cA (pureS rec) (aCons (c2 gIx (cVar 0) (cVar 3)) (aCons (c2 gDiv (cVar 1) (cC (.int 72))) (aCons (c2 gSub (cVar 2) (cC (.int 1))) aNil)))))
 (sRet (c2 gAdd (c2 gAdd (cSl (cVar 0) oNone (oSome (cVar 3))) (cA mkTup (aCons (cVar 4) aNil))) (cSl (cVar 0) (oSome (c2 gAdd (cVar 3) (cC (.int 1)))) oNone))))) sNext)
 (sSeq (sIf (cAnd (c1 (gIsi "tuple") (cVar 0)) (cAnd (c2 gGt (cA gLen (aCons (cVar 0) aNil)) (cC (.int 0))) (c2 gEq (c2 gMod (c2 gDiv (cVar 1) (cC (.int 6))) (cC (.int 2))) (cC (.int 0))))) (sSeq (sAsg 5 (cA mkLst (aCons (cA gList (aCons (cVar 0) aNil)) (aCons (cSl (cVar 0) oNone (oSome (c1 gNeg (cC (.int 1))))) (aCons (c2 gAdd (cVar 0) (cSl (cVar 0) (oSome (c1 gNeg (cC (.int 1)))) oNone)) (aCons (c2 gAdd (cSl (cVar 0) (oSome (cC (.int 1))) oNone) (cSl (cVar 0) oNone (oSome (cC (.int 1))))) (aCons (c1 gRevT (cVar 0)) (aCons (c2 gMul (cVar 0) (cC (.int 2))) aNil))))))))
 (sRet (c2 gIx (cVar 5) (c2 gMod (c2 gDiv (cVar 1) (cC (.int 12))) (cC (.int 6)))))) sNext)
 (sSeq (sIf (cAnd (c1 (gIsi "int") (cVar 0)) (c2 gEq (c2 gMod (c2 gDiv (cVar 1) (cC (.int 6))) (cC (.int 2))) (cC (.int 0)))) (sRet (c2 gIx (cA mkLst (aCons (cA gStr (aCons (cVar 0) aNil)) (aCons (c1 gNeg (cVar 0)) (aCons (c2 gAdd (cVar 0) (cC (.int 1))) (aCons (c2 gEq (cVar 0) (cC (.int 1))) (aCons (c2 gAdd (cVar 0) (cC (.int 97))) (aCons (c2 gSub (cVar 0) (cC (.int 1))) aNil))))))) (c2 gMod (c2 gDiv (cVar 1) (cC (.int 12))) (cC (.int 6))))) sNext)
 (sRet (cA (pureS m_l_odd) (aCons (c2 gDiv (cVar 1) (cC (.int 6))) aNil))))))
def m_l_spoilt_r : Nat → Sem1
  | 0 => fun _ => .bad
  | k + 1 => runP 6 (b_l_spoilt (m_l_spoilt_r k))
def m_l_spoilt : Sem1 := m_l_spoilt_r 4
def b_l_same : CS := (sRet (cAnd (c1 (gIsi "bool") (cVar 0)) (c2 gEq (cVar 0) (cVar 1))))
def m_l_same : Sem1 := runP 2 b_l_same
def b_l_law_k01 : CS := (sSeq (sAsg 1 (cA (pureS m_l_mixed) (aCons (cVar 0) (aCons (cC (.int 1)) aNil))))
 (sSeq (sAsg 2 (cA (pureS m_l_plot) (aCons (cA (pureS m_l_mixed) (aCons (cVar 0) (aCons (cC (.int 0)) aNil))) (aCons (c2 gIx (cA mkTup (aCons (cC (.int 4)) (aCons (cC (.int 7)) (aCons (cC (.int 40)) aNil)))) (c2 gMod (cVar 1) (cC (.int 3)))) aNil))))
 (sSeq (sIf (c2 gEq (c2 gMod (c2 gDiv (cVar 1) (cC (.int 3))) (cC (.int 5))) (cC (.int 1))) (sAsg 2 (cA gTuple (aCons (cA (pureS m_l_spots) (aCons (cA (pureS m_l_mixed) (aCons (cVar 0) (aCons (cC (.int 2)) aNil))) (aCons (cC (.int 4)) (aCons (c2 gAdd (cC (.int 3)) (c2 gMod (c2 gDiv (cVar 1) (cC (.int 15))) (cC (.int 4)))) aNil)))) aNil))) sNext)
 (sSeq (sIf (c2 gEq (c2 gMod (c2 gDiv (cVar 1) (cC (.int 3))) (cC (.int 5))) (cC (.int 2))) (sAsg 2 (cA (pureS m_l_round) (aCons (cA (pureS m_l_mixed) (aCons (cVar 0) (aCons (cC (.int 2)) aNil))) (aCons (cC (.int 9)) aNil)))) sNext)
 (sSeq (sIf (c2 gEq (c2 gMod (c2 gDiv (cVar 1) (cC (.int 3))) (cC (.int 5))) (cC (.int 3))) (sAsg 2 (cA (pureS m_l_many_corners) (aCons (cA (pureS m_l_mixed) (aCons (cVar 0) (aCons (cC (.int 2)) aNil))) aNil))) sNext)
 (sSeq (sIf (c2 gEq (c2 gMod (c2 gDiv (cVar 1) (cC (.int 60))) (cC (.int 2))) (cC (.int 1))) (sAsg 2 (cA (pureS m_l_spoilt) (aCons (cVar 2) (aCons (cA (pureS m_l_mixed) (aCons (cVar 0) (aCons (cC (.int 3)) aNil))) (aCons (c2 gMod (c2 gDiv (cVar 1) (cC (.int 120))) (cC (.int 3))) aNil))))) sNext)
 (sSeq (sAsg 3 (cA (pureS m_l_is_plot) (aCons (cVar 2) aNil)))
 (sSeq (sIf (cNot (cA (pureS m_l_same) (aCons (cA (pureS m_p_is_plot) (aCons (cVar 2) aNil)) (aCons (cVar 3) aNil)))) (sRet (cC (.bool false))) sNext)
 (sRet (cA (pureS m_l_same) (aCons (cA (pureS m_p_is_round) (aCons (cVar 2) aNil)) (aCons (cAnd (cVar 3) (c2 gGt (cA gMin (aCons (cA (pureS m_l_turns) (aCons (cVar 2) aNil)) aNil)) (cC (.int 0)))) aNil))))))))))))
def m_l_law_k01 : Sem1 := runP 4 b_l_law_k01
def b_p_plot_text : CS := (sRet (cM "str" gJoin (cC (.str " ")) (aCons (cLc (cSrc (cVar 0)) [1, 2] (tPair 1 2) (cC (.bool true)) (c2 gAdd (c2 gAdd (cA gStr (aCons (cVar 1) aNil)) (cC (.str ","))) (cA gStr (aCons (cVar 2) aNil)))) aNil)))
def m_p_plot_text : Sem1 := runP 3 b_p_plot_text
def b_p_written : CS := (sSeq (sIf (cNot (cA (pureS m_p_is_plot) (aCons (cVar 0) aNil))) (sRaise 1) sNext)
 (sRet (cA (pureS m_p_plot_text) (aCons (cVar 0) aNil))))
def m_p_written : Sem1 := runX 1 b_p_written
def b_l_written : CS := (sSeq (sAsg 1 (cC (.str "")))
 (sSeq (sFor (cSrc (cVar 0)) (sPair 2 3) (sAsg 1 (c2 gAdd (c2 gAdd (c2 gAdd (c2 gAdd (cVar 1) (cC (.str " "))) (cA gStr (aCons (cVar 2) aNil))) (cC (.str ","))) (cA gStr (aCons (cVar 3) aNil)))))
 (sRet (cSl (cVar 1) (oSome (cC (.int 1))) oNone))))
def m_l_written : Sem1 := runP 4 b_l_written
def b_l_refused : CS := (sSeq (sTry0 1 m_p_written (aCons (cVar 0) aNil) (sRet (cC (.bool true))))
 (sRet (cC (.bool false))))
def m_l_refused : Sem1 := runP 1 b_l_refused
def b_l_refused_by_base : CS := (sSeq (sTryB 1 1 m_p_written (aCons (cVar 0) aNil))
 (sRet (cC (.bool false))))
def m_l_refused_by_base : Sem1 := runP 2 b_l_refused_by_base
def b_l_law_k02 : CS := (sSeq (sAsg 1 (cA (pureS m_l_mixed) (aCons (cVar 0) (aCons (cC (.int 1)) aNil))))
 (sSeq (sAsg 2 (cA (pureS m_l_plot) (aCons (cA (pureS m_l_mixed) (aCons (cVar 0) (aCons (cC (.int 0)) aNil))) (aCons (c2 gIx (cA mkTup (aCons (cC (.int 4)) (aCons (cC (.int 9)) (aCons (cC (.int 100)) aNil)))) (c2 gMod (cVar 1) (cC (.int 3)))) aNil))))
 (sSeq (sIf (c2 gEq (c2 gMod (c2 gDiv (cVar 1) (cC (.int 3))) (cC (.int 3))) (cC (.int 1))) (sAsg 2 (cA (pureS m_l_spoilt) (aCons (cVar 2) (aCons (cA (pureS m_l_mixed) (aCons (cVar 0) (aCons (cC (.int 2)) aNil))) (aCons (c2 gMod (c2 gDiv (cVar 1) (cC (.int 9))) (cC (.int 3))) aNil))))) sNext)
 (sSeq (sIf (cNot (cA (pureS m_l_is_plot) (aCons (cVar 2) aNil))) (sSeq (sIf (c2 gEq (c2 gMod (c2 gDiv (cVar 1) (cC (.int 27))) (cC (.int 2))) (cC (.int 0))) (sRet (cA (pureS m_l_refused) (aCons (cVar 2) aNil))) sNext)
 (sRet (cA (pureS m_l_refused_by_base) (aCons (cVar 2) aNil)))) sNext)
 (sSeq (sAsg 3 (cA m_p_written (aCons (cVar 2) aNil)))
 (sRet (cAnd (c1 (gIsi "str") (cVar 3)) (cAnd (c2 gEq (cVar 3) (cA (pureS m_l_written) (aCons (cVar 2) aNil))) (c2 gEq (cA m_p_written (aCons (cVar 2) aNil)) (cVar 3))))))))))
def m_l_law_k02 : Sem1 := runX 4 b_l_law_k02
def b_p_number_of : CS := (sSeq (sAsg 1 (cVar 0))
 (sSeq (sIf (c2 gEq (cSl (cVar 0) oNone (oSome (cC (.int 1)))) (cC (.str "-"))) (sAsg 1 (cSl (cVar 0) (oSome (cC (.int 1))) oNone)) sNext)
 (sSeq (sIf (cOr (cNot (cChain gLe gLe (cC (.int 1)) (cA gLen (aCons (cVar 1) aNil)) (cC (.int 3)))) (cNot (cA gAll (aCons (cLc (cSrc (cVar 1)) [2] (tName 2) (cC (.bool true)) (c2 gIn (cVar 2) (cC (.str "0123456789")))) aNil)))) (sRaise 2) sNext)
 (sSeq (sIf (c2 gEq (cSl (cVar 0) oNone (oSome (cC (.int 1)))) (cC (.str "-"))) (sRet (c1 gNeg (cA gInt (aCons (cVar 1) aNil)))) sNext)
 (sRet (cA gInt (aCons (cVar 1) aNil)))))))
def m_p_number_of : Sem1 := runX 3 b_p_number_of
def b_p_read : CS := (sSeq (sIf (cNot (c1 (gIsi "str") (cVar 0))) (sRaise 2) sNext)
 (sSeq (sNil 1)
 (sSeq (sFor (cSrc (cM "str" gSplit (cVar 0) (aCons (cC (.str " ")) aNil))) (sName 2) (sSeq (sAsg 3 (cM "str" gSplit (cVar 2) (aCons (cC (.str ",")) aNil)))
 (sSeq (sIf (c2 gNe (cA gLen (aCons (cVar 3) aNil)) (cC (.int 2))) (sRaise 2) sNext)
 (sApp 1 (cA mkTup (aCons (cA m_p_number_of (aCons (c2 gIx (cVar 3) (cC (.int 0))) aNil)) (aCons (cA m_p_number_of (aCons (c2 gIx (cVar 3) (cC (.int 1))) aNil)) aNil)))))))
 (sSeq (sAsg 4 (cA gTuple (aCons (cVar 1) aNil)))
 (sSeq (sIf (cOr (cNot (cA (pureS m_p_is_plot) (aCons (cVar 4) aNil))) (c2 gNe (cA (pureS m_p_plot_text) (aCons (cVar 4) aNil)) (cVar 0))) (sRaise 2) sNext)
 (sRet (cVar 4)))))))
def m_p_read : Sem1 := runX 5 b_p_read
def b_l_changed : CS := (sSeq (sAsg 2 (cM "str" gSplit (cVar 0) (aCons (cC (.str " ")) aNil)))
 (sSeq (sAsg 3 (c2 gMod (c2 gDiv (cVar 1) (cC (.int 8))) (cA gLen (aCons (cVar 2) aNil))))
 (sSeq (sAsg 4 (c2 gMod (c2 gDiv (cVar 1) (cC (.int 8))) (c2 gAdd (cA gLen (aCons (cVar 0) aNil)) (cC (.int 1)))))
 (sSeq (sAsg 5 (c2 gMod (cVar 1) (cC (.int 8))))
 (sSeq (sIf (c2 gEq (cVar 5) (cC (.int 0))) (sRet (c2 gAdd (cSl (cVar 0) oNone (oSome (cVar 4))) (cSl (cVar 0) (oSome (c2 gAdd (cVar 4) (cC (.int 1)))) oNone))) sNext)
 (sSeq (sIf (c2 gLt (cVar 5) (cC (.int 3))) (sSeq (sAsg 6 (c2 gIx (cC (.str " 0123456789,,-+_\n\t")) (c2 gMod (c2 gDiv (cVar 1) (cC (.int 7))) (cC (.int 18)))))
 (sRet (c2 gAdd (c2 gAdd (cSl (cVar 0) oNone (oSome (cVar 4))) (cVar 6)) (cSl (cVar 0) (oSome (c2 gSub (c2 gAdd (cVar 4) (cVar 5)) (cC (.int 1)))) oNone)))) sNext)
 (sSeq (sIf (c2 gEq (cVar 5) (cC (.int 3))) (sRet (cM "str" gJoin (cC (.str " ")) (aCons (c2 gAdd (cSl (cVar 2) oNone (oSome (cVar 3))) (cSl (cVar 2) (oSome (c2 gAdd (cVar 3) (cC (.int 1)))) oNone)) aNil))) sNext)
 (sSeq (sIf (c2 gEq (cVar 5) (cC (.int 4))) (sRet (cM "str" gJoin (cC (.str " ")) (aCons (c2 gAdd (c2 gAdd (cSl (cVar 2) oNone (oSome (cVar 3))) (cSl (cVar 2) (oSome (cVar 3)) (oSome (c2 gAdd (cVar 3) (cC (.int 1)))))) (cSl (cVar 2) (oSome (cVar 3)) oNone)) aNil))) sNext)
 (sSeq (sIf (c2 gEq (cVar 5) (cC (.int 5))) (sSeq (sAsg 7 (c2 gAdd (cSl (cVar 2) (oSome (c2 gAdd (cVar 3) (cC (.int 1)))) (oSome (c2 gAdd (cVar 3) (cC (.int 2))))) (cSl (cVar 2) (oSome (cVar 3)) (oSome (c2 gAdd (cVar 3) (cC (.int 1)))))))
 (sRet (cM "str" gJoin (cC (.str " ")) (aCons (c2 gAdd (c2 gAdd (cSl (cVar 2) oNone (oSome (cVar 3))) (cVar 7)) (cSl (cVar 2) (oSome (c2 gAdd (cVar 3) (cC (.int 2)))) oNone)) aNil)))) sNext)
 (sSeq (sAsg 8 (cM "str" gSplit (cC (.str "0,0 1,0 -1,5 00,1 -0,1 100,7 101,3 3 2,2,2 9,-9 +1,2 1,")) (aCons (cC (.str " ")) aNil)))
 (sRet (cM "str" gJoin (cC (.str " ")) (aCons (c2 gAdd (c2 gAdd (cSl (cVar 2) oNone (oSome (cVar 3))) (cA mkLst (aCons (c2 gIx (cVar 8) (c2 gMod (c2 gDiv (cVar 1) (cC (.int 7))) (cC (.int 12)))) aNil))) (cSl (cVar 2) (oSome (c2 gAdd (cVar 3) (cC (.int 1)))) oNone)) aNil)))))))))))))
def m_l_changed : Sem1 := runP 9 b_l_changed
def b_l_number_of : CS := (sSeq (sAsg 1 (cSl (cVar 0) (oSome (cA gInt (aCons (cM "str" gStarts (cVar 0) (aCons (cC (.str "-")) aNil)) aNil))) oNone))
 (sSeq (sIf (cOr (cNot (cChain gLe gLe (cC (.int 1)) (cA gLen (aCons (cVar 1) aNil)) (cC (.int 3)))) (c2 gNe (cLc (cSrc (cVar 1)) [2] (tName 2) (c2 gLt (cM "str" gFind (cC (.str "0123456789")) (aCons (cVar 2) aNil)) (cC (.int 0))) (cVar 2)) (cA mkLst aNil))) (sRet (cC .none)) sNext)
 (sRet (cA gInt (aCons (cVar 0) aNil)))))
def m_l_number_of : Sem1 := runP 3 b_l_number_of
def b_l_due : CS := (sSeq (sAsg 1 (cA mkTup aNil))
 (sSeq (sFor (cSrc (cM "str" gSplit (cVar 0) (aCons (cC (.str " ")) aNil))) (sName 2) (sSeq (sAsg 3 (cLc (cSrc (cM "str" gSplit (cVar 2) (aCons (cC (.str ",")) aNil))) [4] (tName 4) (cC (.bool true)) (cA (pureS m_l_number_of) (aCons (cVar 4) aNil))))
 (sSeq (sIf (cOr (c2 gNe (cA gLen (aCons (cVar 3) aNil)) (cC (.int 2))) (c2 gIn (cC .none) (cVar 3))) (sRet (cC .none)) sNext)
 (sAsg 1 (c2 gAdd (cVar 1) (cA mkTup (aCons (cA gTuple (aCons (cVar 3) aNil)) aNil)))))))
 (sSeq (sIf (cOr (cNot (cA (pureS m_l_is_plot) (aCons (cVar 1) aNil))) (c2 gNe (cA (pureS m_l_written) (aCons (cVar 1) aNil)) (cVar 0))) (sRet (cC .none)) sNext)
 (sRet (cVar 1)))))
def m_l_due : Sem1 := runP 5 b_l_due
def b_l_found : CS := (sSeq (sTry 1 2 2 m_p_read (aCons (cVar 0) aNil) (sGood 3 (c2 gIx (cA mkLst (aCons (cA mkTup aNil) (aCons (cC .none) aNil))) (cA gInt (aCons (cVar 3) aNil)))))
 (sRet (c2 gIx (cA mkLst (aCons (cVar 1) (aCons (cA mkTup aNil) aNil))) (cA gInt (aCons (c2 gIsN (cVar 1) (cC .none)) aNil)))))
def m_l_found : Sem1 := runP 4 b_l_found
def b_l_law_k03 : CS := (sSeq (sAsg 1 (cA (pureS m_l_mixed) (aCons (cVar 0) (aCons (cC (.int 1)) aNil))))
 (sSeq (sAsg 2 (cA (pureS m_l_plot) (aCons (cA (pureS m_l_mixed) (aCons (cVar 0) (aCons (cC (.int 0)) aNil))) (aCons (c2 gIx (cA mkTup (aCons (cC (.int 4)) (aCons (cC (.int 9)) (aCons (cC (.int 100)) aNil)))) (c2 gMod (c2 gDiv (cVar 1) (cC (.int 3))) (cC (.int 3)))) aNil))))
 (sSeq (sIf (c2 gEq (c2 gMod (c2 gDiv (cVar 1) (cC (.int 9))) (cC (.int 5))) (cC (.int 1))) (sAsg 2 (cA gTuple (aCons (cA (pureS m_l_spots) (aCons (cA (pureS m_l_mixed) (aCons (cVar 0) (aCons (cC (.int 2)) aNil))) (aCons (cC (.int 5)) (aCons (c2 gAdd (cC (.int 3)) (c2 gMod (c2 gDiv (cVar 1) (cC (.int 45))) (cC (.int 3)))) aNil)))) aNil))) sNext)
 (sSeq (sAsg 3 (cA (pureS m_l_written) (aCons (cVar 2) aNil)))
 (sSeq (sFor (fun ρ => ((aCons (c2 gMul (c2 gMod (cVar 1) (cC (.int 3))) (c2 gAdd (cC (.int 1)) (c2 gMod (c2 gDiv (cVar 1) (cC (.int 450))) (cC (.int 2))))) aNil) ρ).bind rng1) (sName 4) (sAsg 3 (cA (pureS m_l_changed) (aCons (cVar 3) (aCons (cA (pureS m_l_drawn) (aCons (cVar 1) (aCons (cVar 4) aNil))) aNil)))))
 (sSeq (sAsg 5 (cA (pureS m_l_found) (aCons (cVar 3) aNil)))
 (sRet (cAnd (c2 gEq (cVar 5) (cA (pureS m_l_due) (aCons (cVar 3) aNil))) (cOr (c2 gIsN (cVar 5) (cC .none)) (cA (pureS m_l_is_plot) (aCons (cVar 5) aNil)))))))))))
def m_l_law_k03 : Sem1 := runP 6 b_l_law_k03
def b_p_divisor : CS := (sSeq (whileL (c2 gNe (cVar 1) (cC (.int 0))) (sPar 0 1 (aCons (cVar 1) (aCons (c2 gMod (cVar 0) (cVar 1)) aNil))) FUEL)
 (sRet (cA gAbs (aCons (cVar 0) aNil))))
def m_p_divisor : Sem1 := runP 2 b_p_divisor
def b_p_twice_area : CS := (sRet (cA (pureS m_p_twice_area_of) (aCons (cVar 0) aNil)))
def m_p_twice_area : Sem1 := runP 1 b_p_twice_area
def b_p_fence_stakes : CS := (sRet (cA gSum (aCons (cLc (cSrc (cA (pureS m_p_sides_of) (aCons (cVar 0) aNil))) [1, 2] (tPair 1 2) (cC (.bool true)) (cA (pureS m_p_divisor) (aCons (c2 gSub (c2 gIx (cVar 2) (cC (.int 0))) (c2 gIx (cVar 1) (cC (.int 0)))) (aCons (c2 gSub (c2 gIx (cVar 2) (cC (.int 1))) (c2 gIx (cVar 1) (cC (.int 1)))) aNil)))) aNil)))
def m_p_fence_stakes : Sem1 := runP 3 b_p_fence_stakes
def b_l_divisor : CS := (sSeq (sAsg 2 (cA gAbs (aCons (cVar 0) aNil)))
 (sSeq (sAsg 3 (cA gAbs (aCons (cVar 1) aNil)))
 (sSeq (whileL (c2 gGt (cVar 3) (cC (.int 0))) (sPar 2 3 (aCons (cVar 3) (aCons (c2 gMod (cVar 2) (cVar 3)) aNil))) FUEL)
 (sRet (cVar 2)))))
def m_l_divisor : Sem1 := runP 4 b_l_divisor
def b_l_fence : CS := (sSeq (sAsg 1 (cC (.int 0)))
 (sSeq (sFor (fun ρ => ((aCons (cVar 0) aNil) ρ).bind enumV) (sPair 2 3) (sSeq (sAsg 4 (cA (pureS m_l_next) (aCons (cVar 0) (aCons (cVar 2) (aCons (cC (.int 1)) aNil)))))
 (sAsg 1 (c2 gAdd (cVar 1) (cA (pureS m_l_divisor) (aCons (c2 gSub (c2 gIx (cVar 4) (cC (.int 0))) (c2 gIx (cVar 3) (cC (.int 0)))) (aCons (c2 gSub (c2 gIx (cVar 4) (cC (.int 1))) (c2 gIx (cVar 3) (cC (.int 1)))) aNil)))))))
 (sRet (cVar 1))))
def m_l_fence : Sem1 := runP 5 b_l_fence
def b_l_law_k10 : CS := (sSeq (sAsg 1 (cA (pureS m_l_plot) (aCons (cA (pureS m_l_mixed) (aCons (cVar 0) (aCons (cC (.int 0)) aNil))) (aCons (c2 gIx (cA mkTup (aCons (cC (.int 4)) (aCons (cC (.int 12)) (aCons (cC (.int 100)) aNil)))) (c2 gMod (cA (pureS m_l_mixed) (aCons (cVar 0) (aCons (cC (.int 1)) aNil))) (cC (.int 3)))) aNil))))
 (sSeq (sAsg 2 (cA (pureS m_p_twice_area) (aCons (cVar 1) aNil)))
 (sSeq (sAsg 3 (cA (pureS m_p_fence_stakes) (aCons (cVar 1) aNil)))
 (sSeq (sIf (cOr (cNot (cA (pureS m_l_number) (aCons (cVar 2) (aCons (cC (.int 1)) (aCons (cC (.int 80000)) aNil))))) (cNot (cA (pureS m_l_number) (aCons (cVar 3) (aCons (cC (.int 3)) (aCons (cC (.int 3000)) aNil)))))) (sRet (cC (.bool false))) sNext)
 (sRet (cAnd (c2 gEq (cVar 2) (cA (pureS m_l_area) (aCons (cVar 1) aNil))) (c2 gEq (cVar 3) (cA (pureS m_l_fence) (aCons (cVar 1) aNil)))))))))
def m_l_law_k10 : Sem1 := runP 4 b_l_law_k10
def b_p_height : CS := (sRet (c2 gIx (cVar 0) (cC (.int 1))))
def m_p_height : Sem1 := runP 1 b_p_height
def b_p_where : CS := (sSeq (sAsg 2 (cC (.bool false)))
 (sSeq (sFor (cSrc (cA (pureS m_p_sides_of) (aCons (cVar 0) aNil))) (sPair 3 4) (sSeq (sIf (cA (pureS m_p_lies_on) (aCons (cVar 3) (aCons (cVar 4) (aCons (cVar 1) aNil)))) (sRet (cC (.str "on"))) sNext)
 (sSeq (sAsg 5 (c2 (gmin2K m_p_height) (cVar 3) (cVar 4)))
 (sSeq (sAsg 6 (c2 (gmax2K m_p_height) (cVar 3) (cVar 4)))
 (sIf (cAnd (cChain gLe gLt (c2 gIx (cVar 5) (cC (.int 1))) (c2 gIx (cVar 1) (cC (.int 1))) (c2 gIx (cVar 6) (cC (.int 1)))) (c2 gGt (cA (pureS m_p_turn) (aCons (cVar 5) (aCons (cVar 6) (aCons (cVar 1) aNil)))) (cC (.int 0)))) (sAsg 2 (cNot (cVar 2))) sNext)))))
 (sSeq (sIf (cVar 2) (sRet (cC (.str "in"))) sNext)
 (sRet (cC (.str "out"))))))
def m_p_where : Sem1 := runP 7 b_p_where
def b_p_inner_stakes : CS := (sSeq (sAsg 1 (cC (.int 0)))
 (sSeq (sAsg 2 (cLc (cSrc (cVar 0)) [5] (tName 5) (cC (.bool true)) (c2 gIx (cVar 5) (cC (.int 0)))))
 (sSeq (sAsg 3 (cLc (cSrc (cVar 0)) [5] (tName 5) (cC (.bool true)) (c2 gIx (cVar 5) (cC (.int 1)))))
 (sSeq (sFor (fun ρ => ((aCons (cA gMin (aCons (cVar 2) aNil)) (aCons (c2 gAdd (cA gMax (aCons (cVar 2) aNil)) (cC (.int 1))) aNil)) ρ).bind rng2) (sName 4) (sAsg 1 (c2 gAdd (cVar 1) (cA gLen (aCons (cLc (fun ρ => ((aCons (cA gMin (aCons (cVar 3) aNil)) (aCons (c2 gAdd (cA gMax (aCons (cVar 3) aNil)) (cC (.int 1))) aNil)) ρ).bind rng2) [6] (tName 6) (c2 gEq (cA (pureS m_p_where) (aCons (cVar 0) (aCons (cA mkTup (aCons (cVar 4) (aCons (cVar 6) aNil))) aNil))) (cC (.str "in"))) (cVar 6)) aNil)))))
 (sRet (cVar 1))))))
def m_p_inner_stakes : Sem1 := runP 7 b_p_inner_stakes
def b_l_where : CS := (sSeq (sAsg 2 (cC (.bool false)))
 (sSeq (sFor (fun ρ => ((aCons (cVar 0) aNil) ρ).bind enumV) (sPair 3 4) (sSeq (sAsg 5 (cA (pureS m_l_next) (aCons (cVar 0) (aCons (cVar 3) (aCons (cC (.int 1)) aNil)))))
 (sSeq (sIf (cA (pureS m_l_on) (aCons (cVar 4) (aCons (cVar 5) (aCons (cVar 1) aNil)))) (sRet (cC (.str "on"))) sNext)
 (sIf (c2 gNe (c2 gLe (c2 gIx (cVar 4) (cC (.int 1))) (c2 gIx (cVar 1) (cC (.int 1)))) (c2 gLe (c2 gIx (cVar 5) (cC (.int 1))) (c2 gIx (cVar 1) (cC (.int 1))))) (sIf (c2 gEq (c2 gGt (cA (pureS m_l_turn) (aCons (cVar 4) (aCons (cVar 5) (aCons (cVar 1) aNil)))) (cC (.int 0))) (c2 gGt (c2 gIx (cVar 5) (cC (.int 1))) (c2 gIx (cVar 4) (cC (.int 1))))) (sAsg 2 (cNot (cVar 2))) sNext) sNext))))
 (sRet (c2 gIx (cA mkLst (aCons (cC (.str "out")) (aCons (cC (.str "in")) aNil))) (cA gInt (aCons (cVar 2) aNil))))))
def m_l_where : Sem1 := runP 6 b_l_where
def b_l_law_k20 : CS := (sSeq (sAsg 1 (cA (pureS m_l_plot) (aCons (cA (pureS m_l_mixed) (aCons (cVar 0) (aCons (cC (.int 0)) aNil))) (aCons (c2 gAdd (cC (.int 3)) (c2 gMod (cA (pureS m_l_mixed) (aCons (cVar 0) (aCons (cC (.int 1)) aNil))) (cC (.int 5)))) aNil))))
 (sSeq (sAsg 2 (c2 gMod (c2 gDiv (cA (pureS m_l_mixed) (aCons (cVar 0) (aCons (cC (.int 1)) aNil))) (cC (.int 5))) (cC (.int 2))))
 (sSeq (sAsg 3 (cA mkTup (aCons (c2 gMul (cVar 2) (c2 gSub (c2 gMod (cA (pureS m_l_mixed) (aCons (cVar 0) (aCons (cC (.int 2)) aNil))) (cC (.int 973))) (cC (.int 486)))) (aCons (c2 gMul (cVar 2) (c2 gSub (c2 gMod (cA (pureS m_l_mixed) (aCons (cVar 0) (aCons (cC (.int 3)) aNil))) (cC (.int 973))) (cC (.int 486)))) aNil))))
 (sSeq (sAsg 1 (cA gTuple (aCons (cLc (cSrc (cVar 1)) [8, 9] (tPair 8 9) (cC (.bool true)) (cA mkTup (aCons (c2 gAdd (cVar 8) (c2 gIx (cVar 3) (cC (.int 0)))) (aCons (c2 gAdd (cVar 9) (c2 gIx (cVar 3) (cC (.int 1)))) aNil)))) aNil)))
 (sSeq (sAsg 4 (cA (pureS m_p_inner_stakes) (aCons (cVar 1) aNil)))
 (sSeq (sIf (cOr (cNot (cA (pureS m_l_number) (aCons (cVar 4) (aCons (cC (.int 0)) (aCons (cC (.int 1000)) aNil))))) (c2 gNe (cA (pureS m_p_twice_area) (aCons (cVar 1) aNil)) (c2 gSub (c2 gAdd (c2 gMul (cC (.int 2)) (cVar 4)) (cA (pureS m_p_fence_stakes) (aCons (cVar 1) aNil))) (cC (.int 2))))) (sRet (cC (.bool false))) sNext)
 (sSeq (sAsg 5 (cLc (cSrc (cVar 1)) [10] (tName 10) (cC (.bool true)) (c2 gIx (cVar 10) (cC (.int 0)))))
 (sSeq (sAsg 6 (cLc (cSrc (cVar 1)) [10] (tName 10) (cC (.bool true)) (c2 gIx (cVar 10) (cC (.int 1)))))
 (sSeq (sAsg 7 (cC (.int 0)))
 (sSeq (sFor (fun ρ => ((aCons (cA gMin (aCons (cVar 5) aNil)) (aCons (c2 gAdd (cA gMax (aCons (cVar 5) aNil)) (cC (.int 1))) aNil)) ρ).bind rng2) (sName 8) (sAsg 7 (c2 gAdd (cVar 7) (cA gLen (aCons (cLc (fun ρ => ((aCons (cA gMin (aCons (cVar 6) aNil)) (aCons (c2 gAdd (cA gMax (aCons (cVar 6) aNil)) (cC (.int 1))) aNil)) ρ).bind rng2) [9] (tName 9) (c2 gEq (cA (pureS m_l_where) (aCons (cVar 1) (aCons (cA mkTup (aCons (cVar 8) (aCons (cVar 9) aNil))) aNil))) (cC (.str "in"))) (cVar 9)) aNil)))))
 (sRet (c2 gEq (cVar 4) (cVar 7)))))))))))))
def m_l_law_k20 : Sem1 := runP 11 b_l_law_k20
def b_l_law_k21 : CS := (sSeq (sAsg 1 (c2 gIx (cA mkTup (aCons (cC (.int 4)) (aCons (cC (.int 9)) (aCons (cC (.int 40)) aNil)))) (c2 gMod (cA (pureS m_l_mixed) (aCons (cVar 0) (aCons (cC (.int 1)) aNil))) (cC (.int 3)))))
 (sSeq (sAsg 2 (cA (pureS m_l_plot) (aCons (cA (pureS m_l_mixed) (aCons (cVar 0) (aCons (cC (.int 0)) aNil))) (aCons (cVar 1) aNil))))
 (sSeq (sAsg 3 (cA (pureS m_l_mixed) (aCons (cVar 0) (aCons (cC (.int 2)) aNil))))
 (sSeq (sAsg 4 (cA mkTup (aCons (c2 gSub (c2 gSub (c2 gMod (c2 gDiv (cVar 3) (cC (.int 8))) (c2 gAdd (c2 gMul (cC (.int 2)) (cVar 1)) (cC (.int 3)))) (cVar 1)) (cC (.int 1))) (aCons (c2 gSub (c2 gSub (c2 gMod (c2 gDiv (cVar 3) (cC (.int 800))) (c2 gAdd (c2 gMul (cC (.int 2)) (cVar 1)) (cC (.int 3)))) (cVar 1)) (cC (.int 1))) aNil))))
 (sSeq (sIf (c2 gEq (c2 gMod (cVar 3) (cC (.int 4))) (cC (.int 1))) (sAsg 4 (c2 gIx (cVar 2) (c2 gMod (c2 gDiv (cVar 3) (cC (.int 8))) (cA gLen (aCons (cVar 2) aNil))))) sNext)
 (sSeq (sIf (c2 gGt (c2 gMod (cVar 3) (cC (.int 4))) (cC (.int 1))) (sSeq (sAsg 5 (c2 gMod (c2 gDiv (cVar 3) (cC (.int 8))) (cA gLen (aCons (cVar 2) aNil))))
 (sSeq (sAsg 6 (c2 gIx (cVar 2) (cVar 5)))
 (sSeq (sAsg 7 (cA (pureS m_l_next) (aCons (cVar 2) (aCons (cVar 5) (aCons (cC (.int 1)) aNil)))))
 (sAsg 4 (cA mkTup (aCons (c2 gSub (c2 gAdd (c2 gDiv (c2 gAdd (c2 gIx (cVar 6) (cC (.int 0))) (c2 gIx (cVar 7) (cC (.int 0)))) (cC (.int 2))) (c2 gMod (c2 gDiv (cVar 3) (cC (.int 800))) (cC (.int 3)))) (cC (.int 1))) (aCons (c2 gSub (c2 gAdd (c2 gDiv (c2 gAdd (c2 gIx (cVar 6) (cC (.int 1))) (c2 gIx (cVar 7) (cC (.int 1)))) (cC (.int 2))) (c2 gMod (c2 gDiv (cVar 3) (cC (.int 2400))) (cC (.int 3)))) (cC (.int 1))) aNil))))))) sNext)
 (sRet (c2 gEq (cA (pureS m_p_where) (aCons (cVar 2) (aCons (cVar 4) aNil))) (cA (pureS m_l_where) (aCons (cVar 2) (aCons (cVar 4) aNil)))))))))))
def m_l_law_k21 : Sem1 := runP 8 b_l_law_k21
def b_p_in_order : CS := (sSeq (sAsg 1 (cA gList (aCons (cVar 0) aNil)))
 (sSeq (sIf (c2 gLt (cA (pureS m_p_twice_area_of) (aCons (cVar 1) aNil)) (cC (.int 0))) (sAsg 1 (c1 gRev (cVar 1))) sNext)
 (sSeq (sAsg 2 (cM "list" gIndex (cVar 1) (aCons (cA gMin (aCons (cVar 1) aNil)) aNil)))
 (sRet (cA gTuple (aCons (c2 gAdd (cSl (cVar 1) (oSome (cVar 2)) oNone) (cSl (cVar 1) oNone (oSome (cVar 2)))) aNil))))))
def m_p_in_order : Sem1 := runP 3 b_p_in_order
def b_p_is_ear : CS := (sSeq (sAsg 2 (c2 gIx (cVar 0) (c2 gSub (cVar 1) (cC (.int 1)))))
 (sSeq (sAsg 3 (c2 gIx (cVar 0) (cVar 1)))
 (sSeq (sAsg 4 (c2 gIx (cVar 0) (c2 gMod (c2 gAdd (cVar 1) (cC (.int 1))) (cA gLen (aCons (cVar 0) aNil)))))
 (sSeq (sIf (c2 gLe (cA (pureS m_p_turn) (aCons (cVar 2) (aCons (cVar 3) (aCons (cVar 4) aNil)))) (cC (.int 0))) (sRet (cC (.bool false))) sNext)
 (sRet (cA gAll (aCons (cLc (cSrc (cVar 0)) [5] (tName 5) (c2 gNotIn (cVar 5) (cA mkTup (aCons (cVar 2) (aCons (cVar 3) (aCons (cVar 4) aNil))))) (c2 gEq (cA (pureS m_p_where) (aCons (cA mkTup (aCons (cVar 2) (aCons (cVar 3) (aCons (cVar 4) aNil)))) (aCons (cVar 5) aNil))) (cC (.str "out")))) aNil)))))))
def m_p_is_ear : Sem1 := runP 6 b_p_is_ear
def b_p_chain : CS := (sSeq (sNil 1)
 (sSeq (sFor (cSrc (cVar 0)) (sName 2) (sSeq (whileL (cAnd (c2 gGt (cA gLen (aCons (cVar 1) aNil)) (cC (.int 1))) (c2 gLe (cA (pureS m_p_turn) (aCons (c2 gIx (cVar 1) (c1 gNeg (cC (.int 2)))) (aCons (c2 gIx (cVar 1) (c1 gNeg (cC (.int 1)))) (aCons (cVar 2) aNil)))) (cC (.int 0)))) (sPop 1) FUEL)
 (sApp 1 (cVar 2))))
 (sRet (cVar 1))))
def m_p_chain : Sem1 := runP 3 b_p_chain
def b_p_around : CS := (sSeq (sAsg 1 (c1 gSortSet (cVar 0)))
 (sSeq (sAsg 2 (c2 gAdd (cSl (cA (pureS m_p_chain) (aCons (cVar 1) aNil)) oNone (oSome (c1 gNeg (cC (.int 1))))) (cSl (cA (pureS m_p_chain) (aCons (c1 gRev (cVar 1)) aNil)) oNone (oSome (c1 gNeg (cC (.int 1)))))))
 (sSeq (sIf (c2 gLt (cA gLen (aCons (cVar 2) aNil)) (cC (.int 3))) (sRaise 1) sNext)
 (sRet (cA (pureS m_p_in_order) (aCons (cVar 2) aNil))))))
def m_p_around : Sem1 := runX 3 b_p_around
def b_l_told : CS := (sSeq (sTry 1 2 1 m_p_around (aCons (cVar 0) aNil) (sGood 3 (c2 gIx (cA mkLst (aCons (cC (.int 0)) (aCons (cC .none) aNil))) (cA gInt (aCons (cVar 3) aNil)))))
 (sRet (c2 gIx (cA mkLst (aCons (cVar 1) (aCons (cC (.int 0)) aNil))) (cA gInt (aCons (c2 gIsN (cVar 1) (cC .none)) aNil)))))
def m_l_told : Sem1 := runP 4 b_l_told
def b_l_law_k40 : CS := (sSeq (sAsg 1 (cA (pureS m_l_mixed) (aCons (cVar 0) (aCons (cC (.int 1)) aNil))))
 (sSeq (sAsg 2 (cA (pureS m_l_spots) (aCons (cA (pureS m_l_mixed) (aCons (cVar 0) (aCons (cC (.int 0)) aNil))) (aCons (c2 gIx (cA mkTup (aCons (cC (.int 2)) (aCons (cC (.int 5)) (aCons (cC (.int 12)) (aCons (cC (.int 40)) aNil))))) (c2 gMod (cVar 1) (cC (.int 4)))) (aCons (c2 gAdd (cC (.int 1)) (c2 gMod (c2 gDiv (cVar 1) (cC (.int 4))) (cC (.int 20)))) aNil)))))
 (sSeq (sIf (c2 gEq (c2 gMod (c2 gDiv (cVar 1) (cC (.int 80))) (cC (.int 4))) (cC (.int 1))) (sAsg 2 (cLc (cSrc (cVar 2)) [8] (tName 8) (cC (.bool true)) (cA mkTup (aCons (c2 gMul (c2 gIx (cVar 8) (cC (.int 0))) (c2 gMod (c2 gDiv (cVar 1) (cC (.int 320))) (cC (.int 3)))) (aCons (c2 gAdd (c2 gMul (c2 gIx (cVar 8) (cC (.int 0))) (c2 gMod (c2 gDiv (cVar 1) (cC (.int 960))) (cC (.int 3)))) (cC (.int 1))) aNil))))) sNext)
 (sSeq (sAsg 3 (c2 gMul (c2 gMod (c2 gDiv (cVar 1) (cC (.int 2880))) (cC (.int 3))) (cC (.int 20))))
 (sSeq (sAsg 2 (cLc (cSrc (cVar 2)) [9, 10] (tPair 9 10) (cC (.bool true)) (cA mkTup (aCons (c2 gSub (cVar 9) (cVar 3)) (aCons (c2 gSub (cVar 10) (c2 gDiv (cVar 3) (cC (.int 2)))) aNil)))))
 (sSeq (sAsg 4 (cA (pureS m_l_told) (aCons (cA gTuple (aCons (cVar 2) aNil)) aNil)))
 (sSeq (sIf (c2 gIsN (cVar 4) (cC .none)) (sSeq (sAsg 5 (cA gMin (aCons (cVar 2) aNil)))
 (sSeq (sAsg 6 (cA gMax (aCons (cVar 2) aNil)))
 (sRet (c2 gEq (cLc (cSrc (cVar 2)) [8] (tName 8) (c2 gNe (cA (pureS m_l_turn) (aCons (cVar 5) (aCons (cVar 6) (aCons (cVar 8) aNil)))) (cC (.int 0))) (cVar 8)) (cA mkLst aNil))))) sNext)
 (sSeq (sIf (cOr (cNot (c1 (gIsi "tuple") (cVar 4))) (cOr (c2 gLt (cA gLen (aCons (cVar 4) aNil)) (cC (.int 3))) (c2 gNe (cLc (cSrc (cVar 4)) [8] (tName 8) (c2 gNotIn (cVar 8) (cVar 2)) (cVar 8)) (cA mkLst aNil)))) (sRet (cC (.bool false))) sNext)
 (sSeq (sIf (c2 gNe (cLc (cSrc (cVar 4)) [8] (tName 8) (cOr (c1 (gIsi "bool") (c2 gIx (cVar 8) (cC (.int 0)))) (c1 (gIsi "bool") (c2 gIx (cVar 8) (cC (.int 1))))) (cVar 8)) (cA mkLst aNil)) (sRet (cC (.bool false))) sNext)
 (sSeq (sIf (cOr (c2 gNe (c2 gIx (cVar 4) (cC (.int 0))) (cA gMin (aCons (cVar 4) aNil))) (cOr (c2 gNe (c1 gLenSet (cVar 4)) (cA gLen (aCons (cVar 4) aNil))) (cOr (c2 gLe (cA gMin (aCons (cA (pureS m_l_turns) (aCons (cVar 4) aNil)) aNil)) (cC (.int 0))) (c2 gLe (cA (pureS m_l_area) (aCons (cVar 4) aNil)) (cC (.int 0)))))) (sRet (cC (.bool false))) sNext)
 (sSeq (sFor (fun ρ => ((aCons (cVar 4) aNil) ρ).bind enumV) (sPair 7 5) (sSeq (sAsg 6 (cA (pureS m_l_next) (aCons (cVar 4) (aCons (cVar 7) (aCons (cC (.int 1)) aNil)))))
 (sIf (c2 gNe (cLc (cSrc (cVar 2)) [8] (tName 8) (c2 gLt (cA (pureS m_l_turn) (aCons (cVar 5) (aCons (cVar 6) (aCons (cVar 8) aNil)))) (cC (.int 0))) (cVar 8)) (cA mkLst aNil)) (sRet (cC (.bool false))) sNext)))
 (sRet (cC (.bool true))))))))))))))
def m_l_law_k40 : Sem1 := runP 11 b_l_law_k40
def b_p_moved : CS := (sRet (cA (pureS m_p_in_order) (aCons (cLc (cSrc (cVar 0)) [2, 3] (tPair 2 3) (cC (.bool true)) (cA mkTup (aCons (c2 gAdd (cVar 2) (c2 gIx (cVar 1) (cC (.int 0)))) (aCons (c2 gAdd (cVar 3) (c2 gIx (cVar 1) (cC (.int 1)))) aNil)))) aNil)))
def m_p_moved : Sem1 := runP 4 b_p_moved
def b_p_turned : CS := (sRet (cA (pureS m_p_in_order) (aCons (cLc (cSrc (cVar 0)) [1, 2] (tPair 1 2) (cC (.bool true)) (cA mkTup (aCons (c1 gNeg (cVar 2)) (aCons (cVar 1) aNil)))) aNil)))
def m_p_turned : Sem1 := runP 3 b_p_turned
def b_p_mirrored : CS := (sRet (cA (pureS m_p_in_order) (aCons (cLc (cSrc (cVar 0)) [1, 2] (tPair 1 2) (cC (.bool true)) (cA mkTup (aCons (c1 gNeg (cVar 1)) (aCons (cVar 2) aNil)))) aNil)))
def m_p_mirrored : Sem1 := runP 3 b_p_mirrored
def b_p_sheared : CS := (sRet (cA (pureS m_p_in_order) (aCons (cLc (cSrc (cVar 0)) [2, 3] (tPair 2 3) (cC (.bool true)) (cA mkTup (aCons (c2 gAdd (cVar 2) (c2 gMul (cVar 1) (cVar 3))) (aCons (cVar 3) aNil)))) aNil)))
def m_p_sheared : Sem1 := runP 4 b_p_sheared
def b_l_law_k50 : CS := (sSeq (sAsg 1 (cA (pureS m_l_plot) (aCons (cA (pureS m_l_mixed) (aCons (cVar 0) (aCons (cC (.int 0)) aNil))) (aCons (cC (.int 6)) aNil))))
 (sSeq (sAsg 2 (c2 gIx (cA mkTup (aCons (cC (.int 40)) (aCons (cC (.int 440)) aNil))) (c2 gMod (c2 gDiv (cA (pureS m_l_mixed) (aCons (cVar 0) (aCons (cC (.int 3)) aNil))) (cC (.int 7))) (cC (.int 2)))))
 (sSeq (sAsg 3 (cA mkTup (aCons (c2 gSub (c2 gMod (cA (pureS m_l_mixed) (aCons (cVar 0) (aCons (cC (.int 1)) aNil))) (c2 gAdd (c2 gMul (cC (.int 2)) (cVar 2)) (cC (.int 1)))) (cVar 2)) (aCons (c2 gSub (c2 gMod (cA (pureS m_l_mixed) (aCons (cVar 0) (aCons (cC (.int 2)) aNil))) (c2 gAdd (c2 gMul (cC (.int 2)) (cVar 2)) (cC (.int 1)))) (cVar 2)) aNil))))
 (sSeq (sAsg 4 (c2 gSub (c2 gMod (cA (pureS m_l_mixed) (aCons (cVar 0) (aCons (cC (.int 3)) aNil))) (cC (.int 7))) (cC (.int 3))))
 (sSeq (sAsg 5 (cA (pureS m_p_moved) (aCons (cVar 1) (aCons (cVar 3) aNil))))
 (sSeq (sIf (c2 gNe (cVar 5) (cA (pureS m_l_in_order) (aCons (cLc (cSrc (cVar 1)) [10, 11] (tPair 10 11) (cC (.bool true)) (cA mkTup (aCons (c2 gAdd (cVar 10) (c2 gIx (cVar 3) (cC (.int 0)))) (aCons (c2 gAdd (cVar 11) (c2 gIx (cVar 3) (cC (.int 1)))) aNil)))) aNil))) (sRet (cC (.bool false))) sNext)
 (sSeq (sAsg 6 (cA (pureS m_p_turned) (aCons (cVar 1) aNil)))
 (sSeq (sAsg 7 (cA (pureS m_p_mirrored) (aCons (cVar 1) aNil)))
 (sSeq (sIf (cOr (c2 gNe (cVar 6) (cA (pureS m_l_in_order) (aCons (cLc (cSrc (cVar 1)) [10, 11] (tPair 10 11) (cC (.bool true)) (cA mkTup (aCons (c1 gNeg (cVar 11)) (aCons (cVar 10) aNil)))) aNil))) (c2 gNe (cVar 7) (cA (pureS m_l_in_order) (aCons (cLc (cSrc (cVar 1)) [10, 11] (tPair 10 11) (cC (.bool true)) (cA mkTup (aCons (c1 gNeg (cVar 10)) (aCons (cVar 11) aNil)))) aNil)))) (sRet (cC (.bool false))) sNext)
 (sSeq (sAsg 8 (cA (pureS m_p_sheared) (aCons (cVar 1) (aCons (cVar 4) aNil))))
 (sSeq (sIf (c2 gNe (cVar 8) (cA (pureS m_l_in_order) (aCons (cLc (cSrc (cVar 1)) [10, 11] (tPair 10 11) (cC (.bool true)) (cA mkTup (aCons (c2 gAdd (cVar 10) (c2 gMul (cVar 4) (cVar 11))) (aCons (cVar 11) aNil)))) aNil))) (sRet (cC (.bool false))) sNext)
 (sSeq (sFor (cSrc (cA mkTup (aCons (cVar 5) (aCons (cVar 6) (aCons (cVar 7) (aCons (cVar 8) aNil)))))) (sName 9) (sSeq (sIf (cOr (c2 gNe (cA (pureS m_p_twice_area) (aCons (cVar 9) aNil)) (cA (pureS m_p_twice_area) (aCons (cVar 1) aNil))) (c2 gNe (cA (pureS m_p_fence_stakes) (aCons (cVar 9) aNil)) (cA (pureS m_p_fence_stakes) (aCons (cVar 1) aNil)))) (sRet (cC (.bool false))) sNext)
 (sIf (c2 gNe (cA (pureS m_p_inner_stakes) (aCons (cVar 9) aNil)) (cA (pureS m_p_inner_stakes) (aCons (cVar 1) aNil))) (sRet (cC (.bool false))) sNext)))
 (sSeq (sIf (cOr (c2 gNe (cA (pureS m_p_moved) (aCons (cVar 5) (aCons (cA mkTup (aCons (c1 gNeg (c2 gIx (cVar 3) (cC (.int 0)))) (aCons (c1 gNeg (c2 gIx (cVar 3) (cC (.int 1)))) aNil))) aNil))) (cVar 1)) (cOr (c2 gNe (cA (pureS m_p_mirrored) (aCons (cVar 7) aNil)) (cVar 1)) (c2 gNe (cA (pureS m_p_sheared) (aCons (cVar 8) (aCons (c1 gNeg (cVar 4)) aNil))) (cVar 1)))) (sRet (cC (.bool false))) sNext)
 (sRet (c2 gEq (cA (pureS m_p_turned) (aCons (cA (pureS m_p_turned) (aCons (cA (pureS m_p_turned) (aCons (cVar 6) aNil)) aNil)) aNil)) (cVar 1))))))))))))))))
def m_l_law_k50 : Sem1 := runP 12 b_l_law_k50
def b_p_grown : CS := (sRet (cA (pureS m_p_in_order) (aCons (cLc (cSrc (cVar 0)) [2, 3] (tPair 2 3) (cC (.bool true)) (cA mkTup (aCons (c2 gMul (cVar 1) (cVar 2)) (aCons (c2 gMul (cVar 1) (cVar 3)) aNil)))) aNil)))
def m_p_grown : Sem1 := runP 4 b_p_grown
def b_l_law_k51 : CS := (sSeq (sAsg 1 (c2 gIx (cA mkTup (aCons (cC (.int 4)) (aCons (cC (.int 4)) (aCons (cC (.int 9)) (aCons (cC (.int 100)) aNil))))) (c2 gMod (c2 gDiv (cA (pureS m_l_mixed) (aCons (cVar 0) (aCons (cC (.int 1)) aNil))) (cC (.int 5))) (cC (.int 4)))))
 (sSeq (sAsg 2 (cA (pureS m_l_plot) (aCons (cA (pureS m_l_mixed) (aCons (cVar 0) (aCons (cC (.int 0)) aNil))) (aCons (cVar 1) aNil))))
 (sSeq (sAsg 3 (c2 gAdd (cC (.int 1)) (c2 gMod (cA (pureS m_l_mixed) (aCons (cVar 0) (aCons (cC (.int 1)) aNil))) (cC (.int 5)))))
 (sSeq (sAsg 4 (cA (pureS m_p_grown) (aCons (cVar 2) (aCons (cVar 3) aNil))))
 (sSeq (sIf (c2 gNe (cVar 4) (cA (pureS m_l_in_order) (aCons (cLc (cSrc (cVar 2)) [7, 8] (tPair 7 8) (cC (.bool true)) (cA mkTup (aCons (c2 gMul (cVar 3) (cVar 7)) (aCons (c2 gMul (cVar 3) (cVar 8)) aNil)))) aNil))) (sRet (cC (.bool false))) sNext)
 (sSeq (sAsg 5 (cA (pureS m_p_twice_area) (aCons (cVar 2) aNil)))
 (sSeq (sAsg 6 (cA (pureS m_p_fence_stakes) (aCons (cVar 2) aNil)))
 (sSeq (sIf (cOr (c2 gNe (cA (pureS m_p_twice_area) (aCons (cVar 4) aNil)) (c2 gMul (c2 gMul (cVar 5) (cVar 3)) (cVar 3))) (c2 gNe (cA (pureS m_p_fence_stakes) (aCons (cVar 4) aNil)) (c2 gMul (cVar 6) (cVar 3)))) (sRet (cC (.bool false))) sNext)
 (sRet (cOr (c2 gEq (cVar 1) (cC (.int 100))) (c2 gEq (c2 gMul (cC (.int 2)) (cA (pureS m_p_inner_stakes) (aCons (cVar 4) aNil))) (c2 gAdd (c2 gSub (c2 gMul (c2 gMul (cVar 5) (cVar 3)) (cVar 3)) (c2 gMul (cVar 6) (cVar 3))) (cC (.int 2))))))))))))))
def m_l_law_k51 : Sem1 := runP 9 b_l_law_k51
end PL

set_option Elab.async false
set_option linter.all false
set_option maxRecDepth 100000
set_option maxHeartbeats 1000000
/-! PM0: how the meanings are worked out. -/
namespace PL
open PySem L2 PG
theorem bok {α β : Type} (a : α) (f : α → R β) : R.bind (.ok a) f = f a := rfl
theorem hEv_ok {c : CE} {ρ : SE} {d : D} (h : c (vE ρ) = .ok d) : hEv c ρ = .ok d := by unfold hEv; rw [h]
theorem hEvA_ok {c : Env → R (List D)} {ρ : SE} {d : List D} (h : c (vE ρ) = .ok d) : hEvA c ρ = .ok d := by unfold hEvA; rw [h]
/-- what to do with a condition -/
def brB (r : R D) (a b : RS) : RS := match r with
  | .ok (.bool true) => a
  | .ok (.bool false) => b
  | .exc x => .exc x
  | _ => .bad
theorem brB_ok (x : Bool) (a b : RS) : brB (.ok (.bool x)) a b = if x = true then a else b := by cases x <;> rfl
theorem sIf_eq (t : CE) (a b : CS) (ρ : SE) : sIf t a b ρ = brB (t (fE ρ)) (a ρ) (b ρ) := by
  unfold sIf brB
  cases t (fE ρ) with
  | ok d => cases d <;> first | rfl | (rename_i b; cases b <;> rfl)
  | exc x => rfl
  | bad => rfl
def sq (r : RS) (b : CS) : RS := match r with
  | .nx ρ' => b ρ'
  | r => r
theorem sSeq_eq (a b : CS) (ρ : SE) : sSeq a b ρ = sq (a ρ) b := rfl
theorem sq_nx (ρ : SE) (b : CS) : sq (.nx ρ) b = b ρ := rfl
theorem sq_rt (d : D) (b : CS) : sq (.rt d) b = .rt d := rfl
theorem sq_ite {p : Prop} [Decidable p] (x y : RS) (b : CS) : sq (if p then x else y) b = if p then sq x b else sq y b := by split <;> rfl
def unr (r : RS) : R D := match r with
  | .rt d => .ok d
  | .nx _ => .ok .none
  | _ => .bad
def unx (r : RS) : R D := match r with
  | .rt d => .ok d
  | .nx _ => .ok .none
  | .exc x => .exc x
  | _ => .bad
theorem runP_eq (n : Nat) (b : CS) (ds : List D) : runP n b ds = unr (b (iniS n ds)) := rfl
theorem runX_eq (n : Nat) (b : CS) (ds : List D) : runX n b ds = unx (b (iniS n ds)) := rfl
theorem unr_rt (d : D) : unr (.rt d) = .ok d := rfl
theorem unx_rt (d : D) : unx (.rt d) = .ok d := rfl
theorem unx_exc (x : Nat) : unx (.exc x) = .exc x := rfl
theorem unr_ite {p : Prop} [Decidable p] (x y : RS) : unr (if p then x else y) = if p then unr x else unr y := by split <;> rfl
theorem unx_ite {p : Prop} [Decidable p] (x y : RS) : unx (if p then x else y) = if p then unx x else unx y := by split <;> rfl
theorem and_b (b c : Bool) : andB (.ok (.bool c)) (.bool b) = .ok (.bool (b && c)) := by cases b <;> rfl
theorem and_f (r : R D) : andB r (.bool false) = .ok (.bool false) := rfl
theorem and_t (r : R D) : andB r (.bool true) = r := rfl
theorem or_b (b c : Bool) : orB (.ok (.bool c)) (.bool b) = .ok (.bool (b || c)) := by cases b <;> rfl
theorem or_f (r : R D) : orB r (.bool false) = r := rfl
theorem or_t (r : R D) : orB r (.bool true) = .ok (.bool true) := rfl
theorem not_b (b : Bool) : notB (.bool b) = .ok (.bool (!b)) := rfl
theorem sRet_ok {c : CE} {ρ : SE} {d : D} (h : c (fE ρ) = .ok d) : sRet c ρ = .rt d := by unfold sRet; rw [h]
theorem sAsg_ok {i : Nat} {c : CE} {ρ : SE} {d : D} (h : c (vE ρ) = .ok d) : sAsg i c ρ = .nx (ρ.set i (.val d)) := by unfold sAsg; rw [hEv_ok h]
theorem sFor_ok {cs : Env → R (List D)} {t : TgtS} {b : CS} {ρ : SE} {ds : List D} (h : cs (vE ρ) = .ok ds) : sFor cs t b ρ = forL t b ds ρ := by unfold sFor; rw [h]
theorem forL_any {Y : Type} (e : Y → D) (t : TgtS) (body : CS) (I : SE → Prop) (bad : Y → Bool) (v : D) : ∀ (xs : List Y) (ρ : SE), I ρ →
    (∀ x ∈ xs, ∀ σ, I σ → ∃ σ1, t (e x) σ = some σ1 ∧ (bad x = true → body σ1 = .rt v) ∧ (bad x = false → ∃ σ', body σ1 = .nx σ' ∧ I σ')) →
    (xs.any bad = true → forL t body (xs.map e) ρ = .rt v) ∧ (xs.any bad = false → ∃ σ', forL t body (xs.map e) ρ = .nx σ' ∧ I σ')
  | [], ρ, hI, _ => ⟨fun h => (by cases h), fun _ => ⟨ρ, rfl, hI⟩⟩
  | x :: xs, ρ, hI, st => by
    obtain ⟨σ1, h1, h2, h3⟩ := st x (List.mem_cons_self ..) ρ hI
    rw [List.map_cons, List.any_cons]
    unfold forL
    rw [h1]
    dsimp only
    cases hb : bad x with
    | true =>
      rw [h2 hb]
      exact ⟨fun _ => rfl, fun h => by cases h⟩
    | false =>
      obtain ⟨σ', h4, h5⟩ := h3 hb
      rw [h4]
      dsimp only
      rw [Bool.false_or]
      exact forL_any e t body I bad v xs σ' h5 fun y hy => st y (List.mem_cons_of_mem _ hy)
theorem forL_acc {Y S : Type} (e : Y → D) (t : TgtS) (body : CS) (I : S → SE → Prop) (f : S → Y → S) : ∀ (xs : List Y) (s : S) (ρ : SE), I s ρ →
    (∀ s, ∀ x ∈ xs, ∀ σ, I s σ → ∃ σ1, t (e x) σ = some σ1 ∧ ∃ σ', body σ1 = .nx σ' ∧ I (f s x) σ') →
    ∃ σ', forL t body (xs.map e) ρ = .nx σ' ∧ I (xs.foldl f s) σ'
  | [], s, ρ, hI, _ => ⟨ρ, rfl, hI⟩
  | x :: xs, s, ρ, hI, st => by
    obtain ⟨σ1, h1, σ', h4, h5⟩ := st s x (List.mem_cons_self ..) ρ hI
    rw [List.map_cons, List.foldl_cons]
    unfold forL
    rw [h1]
    dsimp only
    rw [h4]
    exact forL_acc e t body I f xs _ σ' h5 fun s y hy => st s y (List.mem_cons_of_mem _ hy)
theorem forL_ix {Y : Type} (e : Y → D) (t : TgtS) (body : CS) : ∀ (xs : List Y) (I : Nat → SE → Prop) (ρ : SE), I 0 ρ →
    (∀ (i : Nat) (h : i < xs.length) σ, I i σ → ∃ σ1, t (e xs[i]) σ = some σ1 ∧ ∃ σ', body σ1 = .nx σ' ∧ I (i + 1) σ') →
    ∃ σ', forL t body (xs.map e) ρ = .nx σ' ∧ I xs.length σ'
  | [], I, ρ, hI, _ => ⟨ρ, rfl, hI⟩
  | x :: xs, I, ρ, hI, st => by
    obtain ⟨σ1, h1, σ', h4, h5⟩ := st 0 (Nat.zero_lt_succ _) ρ hI
    rw [List.map_cons]
    unfold forL
    rw [show t (e x) ρ = some σ1 from h1]
    dsimp only
    rw [h4]
    exact forL_ix e t body xs (fun i => I (i + 1)) σ' h5 fun i h => st (i + 1) (Nat.succ_lt_succ h)
theorem lc_filter {Y : Type} (e : Y → D) (t : Tgt) (cond elt : CE) (ρ : Env) (p : Y → Bool) (g : Y → D) : ∀ (xs : List Y),
    (∀ x ∈ xs, ∃ ρ1, t (e x) ρ = some ρ1 ∧ cond ρ1 = .ok (.bool (p x)) ∧ (p x = true → elt ρ1 = .ok (g x))) →
    lcLoop t cond elt ρ (xs.map e) = .ok ((xs.filter p).map g)
  | [], _ => rfl
  | x :: xs, h => by
    obtain ⟨ρ1, h1, h2, h3⟩ := h x (List.mem_cons_self ..)
    have ih := lc_filter e t cond elt ρ p g xs fun y hy => h y (List.mem_cons_of_mem _ hy)
    rw [List.map_cons]
    unfold lcLoop
    rw [h1]
    dsimp only
    rw [h2]
    cases hp : p x with
    | true =>
      rw [List.filter_cons_of_pos hp, List.map_cons]
      show (elt ρ1).bind _ = _
      rw [h3 hp, bok, ih, bok]
    | false =>
      rw [List.filter_cons_of_neg (by rw [hp]; exact Bool.false_ne_true)]
      exact ih
theorem cLc_filter {Y : Type} (e : Y → D) {cs : Env → R (List D)} {vs : List Nat} {t : Tgt} {cond elt : CE} {ρ : Env} {xs : List Y} (p : Y → Bool) (g : Y → D) (hc : cs ρ = .ok (xs.map e)) (hl : xs.length ≤ sizeLine)
    (h : ∀ x ∈ xs, ∃ ρ1, t (e x) (wipeE ρ vs) = some ρ1 ∧ cond ρ1 = .ok (.bool (p x)) ∧ (p x = true → elt ρ1 = .ok (g x))) : cLc cs vs t cond elt ρ = .ok (.list ((xs.filter p).map g)) := by
  unfold cLc
  rw [hc, bok, List.length_map, if_pos hl, lc_filter e t cond elt _ p g xs h]
  rfl
theorem cLc_map {Y : Type} (e : Y → D) {cs : Env → R (List D)} {vs : List Nat} {t : Tgt} {elt : CE} {ρ : Env} {xs : List Y} (g : Y → D) (hc : cs ρ = .ok (xs.map e)) (hl : xs.length ≤ sizeLine)
    (h : ∀ x ∈ xs, ∃ ρ1, t (e x) (wipeE ρ vs) = some ρ1 ∧ elt ρ1 = .ok (g x)) : cLc cs vs t (cC (.bool true)) elt ρ = .ok (.list (xs.map g)) := by
  rw [cLc_filter e (fun _ => true) g hc hl fun x hx => by obtain ⟨ρ1, h1, h2⟩ := h x hx; exact ⟨ρ1, h1, rfl, fun _ => h2⟩]
  rw [List.filter_eq_self.mpr fun _ _ => rfl]
theorem mulB {i j : Int} (h1 : -(2^60) ≤ i) (h2 : i ≤ 2^60) : CMulB i j = true := by
  unfold CMulB
  rw [Bool.or_eq_true]
  left
  simp only [Bool.and_eq_true, decide_eq_true_eq]
  omega
theorem mulB' {i j : Int} (h1 : -(2^60) ≤ j) (h2 : j ≤ 2^60) : CMulB i j = true := by
  unfold CMulB
  rw [Bool.or_eq_true]
  right
  simp only [Bool.and_eq_true, decide_eq_true_eq]
  omega
theorem size2 (a b : D) : mkTup [a, b] = .ok (.tuple [a, b]) := mkTup_le (by show 2 ≤ sizeLine; decide)
theorem size1 (a : D) : mkLst [a] = .ok (.list [a]) := mkLst_le (by show 1 ≤ sizeLine; decide)
theorem size0 : mkLst [] = .ok (.list []) := mkLst_le (by show 0 ≤ sizeLine; decide)
theorem mk_pt (x y : Int) : mkTup [.int x, .int y] = .ok (pt (x, y)) := size2 _ _
theorem eqv_int (a b : Int) : PyData.eqv (.int a) (.int b) = decide (a = b) := by
  simp only [PyData.eqv]
  exact PySem.W.beq_decide a b
theorem fit_int (i : Int) : fitD (.int i) = true := by simp [fitD, PyData.plain, PyData.depth]
theorem gEq_int (a b : Int) : gEq (.int a) (.int b) = .ok (.bool (decide (a = b))) := by
  unfold gEq
  rw [fit_int, fit_int, eqv_int]
  rfl
theorem gNe_int (a b : Int) : gNe (.int a) (.int b) = .ok (.bool (!decide (a = b))) := by
  unfold gNe
  rw [fit_int, fit_int, eqv_int]
  rfl
theorem ix0 (p : PG.Pt) : gIx (pt p) (.int 0) = .ok (.int p.1) := rfl
theorem ix1 (p : PG.Pt) : gIx (pt p) (.int 1) = .ok (.int p.2) := rfl
theorem min_int (i j : Int) : gMin [.int i, .int j] = .ok (.int (min2 i j)) := rfl
theorem max_int (i j : Int) : gMax [.int i, .int j] = .ok (.int (max2 i j)) := rfl
theorem gLt_int (i j : Int) : gLt (.int i) (.int j) = .ok (.bool (decide (i < j))) := rfl
theorem gLe_int (i j : Int) : gLe (.int i) (.int j) = .ok (.bool (decide (i ≤ j))) := rfl
theorem gGt_int (i j : Int) : gGt (.int i) (.int j) = .ok (.bool (decide (j < i))) := rfl
theorem gGe_int (i j : Int) : gGe (.int i) (.int j) = .ok (.bool (decide (j ≤ i))) := rfl
theorem gAdd_int (i j : Int) : gAdd (.int i) (.int j) = .ok (.int (i + j)) := rfl
theorem gSub_int (i j : Int) : gSub (.int i) (.int j) = .ok (.int (i - j)) := rfl
theorem gNeg_int (i : Int) : gNeg (.int i) = .ok (.int (-i)) := rfl
theorem gMul_int {i j : Int} (h : CMulB i j = true) : gMul (.int i) (.int j) = .ok (.int (i * j)) := by unfold gMul; dsimp only; rw [if_pos h]
theorem gDiv_int {i j : Int} (h : 0 < j ∧ j < 1073741824) : gDiv (.int i) (.int j) = .ok (.int (i / j)) := by unfold gDiv; dsimp only; rw [if_pos h]
theorem gMod_int {i j : Int} (h : 0 < j) : gMod (.int i) (.int j) = .ok (.int (i % j)) := by unfold gMod; dsimp only; rw [if_pos h]
theorem len_list (ds : List D) : gLen [.list ds] = .ok (.int ds.length) := rfl
theorem len_tuple (ds : List D) : gLen [.tuple ds] = .ok (.int ds.length) := rfl
theorem pure_ok {m : Sem1} {ds : List D} {d : D} (h : m ds = .ok d) : pureS m ds = .ok d := by unfold pureS; rw [h]
/-- a list or tuple of points -/
def IsPs (d : D) (l : List PG.Pt) : Prop := d = .list (l.map pt) ∨ d = .tuple (l.map pt)
theorem atI_map {Y : Type} {f : Y → D} {l : List Y} {i : Nat} (h : i < l.length) : atI (l.map f) (i : Int) = some (f l[i]) := by
  unfold atI ixN
  simp [h]
theorem at_get {l : List PG.Pt} {i : Nat} (h : i < l.length) : at_ l i = l[i] := by
  unfold at_
  rw [List.getD_eq_getElem?_getD, List.getElem?_eq_getElem h]; rfl
theorem ix_ps {d : D} {l : List PG.Pt} (hd : IsPs d l) {i : Nat} (h : i < l.length) : gIx d (.int (i : Int)) = .ok (pt (at_ l i)) := by
  rw [at_get h]
  rcases hd with e | e <;> subst e <;> (unfold gIx; dsimp only; rw [atI_map h]; rfl)
theorem len_ps {d : D} {l : List PG.Pt} (hd : IsPs d l) : gLen [d] = .ok (.int l.length) := by
  rcases hd with e | e <;> subst e <;> simp [gLen]
theorem enum_map (l : List PG.Pt) : enumD (l.map pt) = (List.range l.length).map fun (i : Nat) => .tuple [.int (i : Int), pt (at_ l i)] := by
  unfold enumD
  rw [List.length_map]
  refine List.map_congr_left fun i hi => ?_
  have hi := List.mem_range.mp hi
  rw [at_get hi, List.getD_eq_getElem?_getD, List.getElem?_map, List.getElem?_eq_getElem hi]
  rfl
theorem enum_ps {d : D} {l : List PG.Pt} (hd : IsPs d l) : enumV [d] = .ok ((List.range l.length).map fun (i : Nat) => .tuple [.int (i : Int), pt (at_ l i)]) := by
  rw [← enum_map]
  rcases hd with e | e <;> subst e <;> rfl
theorem rng_one {n : Nat} (h : n < 2 ^ 62) : rng1 [.int (n : Int)] = .ok ((List.range n).map fun (i : Nat) => .int (i : Int)) := by
  unfold rng1
  dsimp only
  rw [if_pos (by unfold rngOk; omega)]
  unfold rngL
  simp
theorem rng_two {a b : Nat} (h : b < 2 ^ 62) (ha : a < 2 ^ 62) : rng2 [.int (a : Int), .int (b : Int)] = .ok ((List.range (b - a)).map fun (i : Nat) => .int ((a + i : Nat) : Int)) := by
  unfold rng2
  dsimp only
  rw [if_pos (by unfold rngOk; omega)]
  unfold rngL
  have : ((b : Int) - (a : Int)).toNat = b - a := by omega
  rw [this]
  simp
theorem c2_ok {g : D → D → R D} {a b : CE} {ρ : Env} {x y : D} (h : a ρ = .ok x) (h' : b ρ = .ok y) : c2 g a b ρ = g x y := by
  unfold c2
  rw [h, bok, h', bok]
theorem src1 {c : CE} {ρ : Env} {d : D} {ds : List D} (h : c ρ = .ok d) (h2 : srcV d = .ok ds) : cSrc c ρ = .ok ds := by
  unfold cSrc
  rw [h, bok, h2]
theorem pure_ok' {m : Sem1} {ds : List D} {d : D} (h : m ds = .ok d) : pureS m ds = .ok d := by unfold pureS; rw [h]
theorem call1 {m : Sem1} {a : CE} {ρ : Env} {x d : D} (h1 : a ρ = .ok x) (h : m [x] = .ok d) : cA (pureS m) (aCons a aNil) ρ = .ok d := by
  unfold cA aCons aNil
  rw [h1, bok, bok, bok, pure_ok' h]
theorem call2 {m : Sem1} {a b : CE} {ρ : Env} {x y d : D} (h1 : a ρ = .ok x) (h2 : b ρ = .ok y) (h : m [x, y] = .ok d) : cA (pureS m) (aCons a (aCons b aNil)) ρ = .ok d := by
  unfold cA aCons aNil
  rw [h1, h2, bok, bok, bok, bok, bok, pure_ok' h]
theorem call3 {m : Sem1} {a b c : CE} {ρ : Env} {x y z d : D} (h1 : a ρ = .ok x) (h2 : b ρ = .ok y) (h3 : c ρ = .ok z) (h : m [x, y, z] = .ok d) : cA (pureS m) (aCons a (aCons b (aCons c aNil))) ρ = .ok d := by
  unfold cA aCons aNil
  rw [h1, h2, h3, bok, bok, bok, bok, bok, bok, bok, pure_ok' h]
theorem fn1 {m : Sem1} {a : CE} {ρ : Env} {x d : D} (h1 : a ρ = .ok x) (h : m [x] = .ok d) : cA m (aCons a aNil) ρ = .ok d := by
  unfold cA aCons aNil
  rw [h1, bok, bok, bok, h]
theorem fn2 {m : Sem1} {a b : CE} {ρ : Env} {x y d : D} (h1 : a ρ = .ok x) (h2 : b ρ = .ok y) (h : m [x, y] = .ok d) : cA m (aCons a (aCons b aNil)) ρ = .ok d := by
  unfold cA aCons aNil
  rw [h1, h2, bok, bok, bok, bok, bok, h]
theorem fn3 {m : Sem1} {a b c : CE} {ρ : Env} {x y z d : D} (h1 : a ρ = .ok x) (h2 : b ρ = .ok y) (h3 : c ρ = .ok z) (h : m [x, y, z] = .ok d) : cA m (aCons a (aCons b (aCons c aNil))) ρ = .ok d := by
  unfold cA aCons aNil
  rw [h1, h2, h3, bok, bok, bok, bok, bok, bok, bok, h]
theorem fn4 {m : Sem1} {a b c e : CE} {ρ : Env} {x y z u d : D} (h1 : a ρ = .ok x) (h2 : b ρ = .ok y) (h3 : c ρ = .ok z) (h4 : e ρ = .ok u) (h : m [x, y, z, u] = .ok d) : cA m (aCons a (aCons b (aCons c (aCons e aNil)))) ρ = .ok d := by
  unfold cA aCons aNil
  rw [h1, h2, h3, h4, bok, bok, bok, bok, bok, bok, bok, bok, bok, h]
theorem size4 (a b c d : D) : mkTup [a, b, c, d] = .ok (.tuple [a, b, c, d]) := mkTup_le (by show 4 ≤ sizeLine; decide)
theorem size3 (a b c : D) : mkTup [a, b, c] = .ok (.tuple [a, b, c]) := mkTup_le (by show 3 ≤ sizeLine; decide)
theorem c2_is {g : D → D → R D} {a b : CE} {ρ : Env} {x y d : D} (h : a ρ = .ok x) (h' : b ρ = .ok y) (hg : g x y = .ok d) : c2 g a b ρ = .ok d := by
  unfold c2
  rw [h, bok, h', bok, hg]
theorem c1_is {g : D → R D} {a : CE} {ρ : Env} {x d : D} (h : a ρ = .ok x) (hg : g x = .ok d) : c1 g a ρ = .ok d := by
  unfold c1
  rw [h, bok, hg]
theorem at1 {α : Type} {f : List D → R α} {c : CE} {ρ : Env} {d : D} (h : c ρ = .ok d) : ((aCons c aNil) ρ).bind f = f [d] := by
  unfold aCons aNil
  rw [h]
  rfl
theorem at2 {α : Type} {f : List D → R α} {c c' : CE} {ρ : Env} {d d' : D} (h : c ρ = .ok d) (h' : c' ρ = .ok d') : ((aCons c (aCons c' aNil)) ρ).bind f = f [d, d'] := by
  unfold aCons aNil
  rw [h, bok, h']
  rfl
theorem src_ps {d : D} {l : List PG.Pt} (hd : IsPs d l) : srcV d = .ok (l.map pt) := by
  rcases hd with e | e <;> subst e <;> rfl
end PL

set_option Elab.async false
set_option linter.all false
set_option maxRecDepth 100000
set_option maxHeartbeats 1000000
namespace PL
open PySem L2 PG
theorem e_l_turn {a b c : PG.Pt} (ha : Bd 1000000 a) (hb : Bd 1000000 b) (hc : Bd 1000000 c) : m_l_turn [pt a, pt b, pt c] = .ok (.int (turn a b c)) := by
  unfold Bd at *
  have h1 : CMulB (b.1 - a.1) (c.2 - a.2) = true := mulB (by omega) (by omega)
  have h2 : CMulB (b.2 - a.2) (c.1 - a.1) = true := mulB (by omega) (by omega)
  simp [m_l_turn, b_l_turn, runP_eq, runX_eq, iniS, sSeq_eq, sIf_eq, brB_ok, sq_nx, sq_rt, sq_ite, unr_rt, unr_ite, and_b, or_b, or_t, or_f, and_t, and_f, not_b, bok, vE, fE, Sl.f, Sl.v, sNext, sRet, sAsg, sAsg2, hEv, sPar, hEvA, c1, c2, cA, cVar, cC, cAnd, cOr, cNot, cChain, aNil, aCons, gAdd_int, gSub_int, gNeg_int, gLt_int, gLe_int, gGt_int, gGe_int, gEq_int, gNe_int, min_int, max_int, ix0, ix1, mk_pt, pureS, tName, tPair, sName, sPair, wipeE, gMul_int h1, gMul_int h2, turn]
theorem e_p_turn {a b c : PG.Pt} (ha : Bd 1000000 a) (hb : Bd 1000000 b) (hc : Bd 1000000 c) : m_p_turn [pt a, pt b, pt c] = .ok (.int (turn a b c)) := e_l_turn ha hb hc
theorem e_l_on {a b c : PG.Pt} (ha : Bd 1000000 a) (hb : Bd 1000000 b) (hc : Bd 1000000 c) : m_l_on [pt a, pt b, pt c] = .ok (.bool (onB a b c)) := by
  have ht := e_l_turn ha hb hc
  simp [m_l_on, b_l_on, runP_eq, runX_eq, iniS, sSeq_eq, sIf_eq, brB_ok, sq_nx, sq_rt, sq_ite, unr_rt, unr_ite, and_b, or_b, or_t, or_f, and_t, and_f, not_b, bok, vE, fE, Sl.f, Sl.v, sNext, sRet, sAsg, sAsg2, hEv, sPar, hEvA, c1, c2, cA, cVar, cC, cAnd, cOr, cNot, cChain, aNil, aCons, gAdd_int, gSub_int, gNeg_int, gLt_int, gLe_int, gGt_int, gGe_int, gEq_int, gNe_int, min_int, max_int, ix0, ix1, mk_pt, pureS, tName, tPair, sName, sPair, wipeE, ht, onB]
  split <;> simp [*]
theorem e_p_on {a b c : PG.Pt} (ha : Bd 1000000 a) (hb : Bd 1000000 b) (hc : Bd 1000000 c) : m_p_lies_on [pt a, pt b, pt c] = .ok (.bool (onB a b c)) := e_l_on ha hb hc
theorem turn_bd {a b c : PG.Pt} (ha : Bd 1000000 a) (hb : Bd 1000000 b) (hc : Bd 1000000 c) : -(2^60) ≤ turn a b c ∧ turn a b c ≤ 2^60 := by
  unfold Bd at *
  unfold turn
  have key : ∀ x y : Int, -2000000 ≤ x → x ≤ 2000000 → -2000000 ≤ y → y ≤ 2000000 → -4000000000000 ≤ x * y ∧ x * y ≤ 4000000000000 := by
    intro x y h1 h2 h3 h4
    have q1 : 0 ≤ (2000000 - x) * (2000000 - y) := Int.mul_nonneg (by omega) (by omega)
    have q2 : 0 ≤ (2000000 + x) * (2000000 + y) := Int.mul_nonneg (by omega) (by omega)
    have q3 : 0 ≤ (2000000 - x) * (2000000 + y) := Int.mul_nonneg (by omega) (by omega)
    have q4 : 0 ≤ (2000000 + x) * (2000000 - y) := Int.mul_nonneg (by omega) (by omega)
    simp only [Int.sub_mul, Int.mul_sub, Int.add_mul, Int.mul_add] at q1 q2 q3 q4
    omega
  have k1 := key (b.1 - a.1) (c.2 - a.2) (by omega) (by omega) (by omega) (by omega)
  have k2 := key (b.2 - a.2) (c.1 - a.1) (by omega) (by omega) (by omega) (by omega)
  omega
theorem e_l_meet {a b c d : PG.Pt} (ha : Bd 1000000 a) (hb : Bd 1000000 b) (hc : Bd 1000000 c) (hd : Bd 1000000 d) : m_l_meet [pt a, pt b, pt c, pt d] = .ok (.bool (meetL a b c d)) := by
  have h1 := e_l_on ha hb hc
  have h2 := e_l_on ha hb hd
  have h3 := e_l_on hc hd ha
  have h4 := e_l_on hc hd hb
  have t1 := e_l_turn ha hb hc
  have t2 := e_l_turn ha hb hd
  have t3 := e_l_turn hc hd ha
  have t4 := e_l_turn hc hd hb
  have m1 : CMulB (turn a b c) (turn a b d) = true := mulB (turn_bd ha hb hc).1 (turn_bd ha hb hc).2
  have m2 : CMulB (turn c d a) (turn c d b) = true := mulB (turn_bd hc hd ha).1 (turn_bd hc hd ha).2
  simp [m_l_meet, b_l_meet, runP_eq, runX_eq, iniS, sSeq_eq, sIf_eq, brB_ok, sq_nx, sq_rt, sq_ite, unr_rt, unr_ite, and_b, or_b, or_t, or_f, and_t, and_f, not_b, bok, vE, fE, Sl.f, Sl.v, sNext, sRet, sAsg, sAsg2, hEv, sPar, hEvA, c1, c2, cA, cVar, cC, cAnd, cOr, cNot, cChain, aNil, aCons, gAdd_int, gSub_int, gNeg_int, gLt_int, gLe_int, gGt_int, gGe_int, gEq_int, gNe_int, min_int, max_int, ix0, ix1, mk_pt, pureS, tName, tPair, sName, sPair, wipeE, h1, h2, h3, h4, t1, t2, t3, t4, gMul_int m1, gMul_int m2, meetL]
  cases onB a b c <;> cases onB a b d <;> cases onB c d a <;> cases onB c d b <;> simp
  split <;> rename_i h <;> simp [h]
end PL

set_option Elab.async false
set_option linter.all false
set_option maxRecDepth 100000
set_option maxHeartbeats 1000000
namespace PL
open PySem L2 PG
def intsD (ns : List Int) : D := .list (ns.map .int)
theorem ix_ints {ns : List Int} {k : Nat} (h : k < ns.length) : gIx (intsD ns) (.int (k : Int)) = .ok (.int (ns.getD k 0)) := by
  unfold gIx intsD
  dsimp only
  rw [atI_map h, List.getD_eq_getElem?_getD, List.getElem?_eq_getElem h]
  rfl
theorem e_cell (ns : List Int) (k : Nat) : m_l_cell_at [intsD ns, .int (k : Int)] = .ok (.int (ns.getD k 0)) := by
  have hl : gLen [intsD ns] = .ok (.int (ns.length : Int)) := by unfold intsD; rw [len_list, List.length_map]
  by_cases h : k < ns.length
  · have h2 := ix_ints h
    have h3 : (k : Int) < (ns.length : Int) := by omega
    simp only [m_l_cell_at, b_l_cell_at, runP_eq, runX_eq, iniS, sSeq_eq, sIf_eq, brB_ok, sq_nx, sq_rt, sq_ite, unr_rt, unr_ite, and_b, or_b, or_t, or_f, and_t, and_f, not_b, bok, vE, fE, Sl.f, Sl.v, sNext, sRet, sAsg, sAsg2, hEv, sPar, hEvA, c1, c2, cA, cVar, cC, cAnd, cOr, cNot, cChain, aNil, aCons, gAdd_int, gSub_int, gNeg_int, gLt_int, gLe_int, gGt_int, gGe_int, gEq_int, gNe_int, min_int, max_int, ix0, ix1, mk_pt, pureS, tName, tPair, sName, sPair, wipeE, List.map_cons, List.map_nil, List.cons_append, List.nil_append, List.length_cons, List.length_nil, List.replicate, List.getElem?_cons_zero, List.getElem?_cons_succ, hl, h2]
    simp [h3, sq_rt, unr_rt]
  · have h3 : ¬ (k : Int) < (ns.length : Int) := by omega
    simp [m_l_cell_at, b_l_cell_at, runP_eq, runX_eq, iniS, sSeq_eq, sIf_eq, brB_ok, sq_nx, sq_rt, sq_ite, unr_rt, unr_ite, and_b, or_b, or_t, or_f, and_t, and_f, not_b, bok, vE, fE, Sl.f, Sl.v, sNext, sRet, sAsg, sAsg2, hEv, sPar, hEvA, c1, c2, cA, cVar, cC, cAnd, cOr, cNot, cChain, aNil, aCons, gAdd_int, gSub_int, gNeg_int, gLt_int, gLe_int, gGt_int, gGe_int, gEq_int, gNe_int, min_int, max_int, ix0, ix1, mk_pt, pureS, tName, tPair, sName, sPair, wipeE, hl, h3, List.getD_eq_getElem?_getD, List.getElem?_eq_none (Nat.le_of_not_lt h), h]
theorem c7919 (x : Int) : CMulB 7919 x = true := mulB (by decide) (by decide)
theorem c48271 (x : Int) : CMulB x 48271 = true := mulB' (by decide) (by decide)
theorem c7 (x : Int) : CMulB 7 x = true := mulB (by decide) (by decide)
theorem c104729 (x : Int) : CMulB 104729 x = true := mulB (by decide) (by decide)
theorem c69621 (x : Int) : CMulB x 69621 = true := mulB' (by decide) (by decide)
theorem c3 (x : Int) : CMulB 3 x = true := mulB (by decide) (by decide)
theorem c2' (x : Int) : CMulB 2 x = true := mulB (by decide) (by decide)
theorem modP (x : Int) : -(2^60) ≤ x % 2147483647 ∧ x % 2147483647 ≤ 2^60 := by omega
theorem e_mixed (ns : List Int) (k : Nat) : m_l_mixed [intsD ns, .int (k : Int)] = .ok (.int (mixed ns k)) := by
  have h := e_cell ns k
  simp [m_l_mixed, b_l_mixed, runP_eq, runX_eq, iniS, sSeq_eq, sIf_eq, brB_ok, sq_nx, sq_rt, sq_ite, unr_rt, unr_ite, and_b, or_b, or_t, or_f, and_t, and_f, not_b, bok, vE, fE, Sl.f, Sl.v, sNext, sRet, sAsg, sAsg2, hEv, sPar, hEvA, c1, c2, cA, cVar, cC, cAnd, cOr, cNot, cChain, aNil, aCons, gAdd_int, gSub_int, gNeg_int, gLt_int, gLe_int, gGt_int, gGe_int, gEq_int, gNe_int, min_int, max_int, ix0, ix1, mk_pt, pureS, tName, tPair, sName, sPair, wipeE, h, gMul_int (c7919 _), gMul_int (c48271 _), gMul_int (c7 _), gMod_int (show (0:Int) < 2147483647 by decide), gMod_int (show (0:Int) < 2147483629 by decide), gMul_int (mulB (modP _).1 (modP _).2), mixed, mixedN]
theorem e_drawn (n k : Int) : m_l_drawn [.int n, .int k] = .ok (.int (drawn n k)) := by
  simp [m_l_drawn, b_l_drawn, runP_eq, runX_eq, iniS, sSeq_eq, sIf_eq, brB_ok, sq_nx, sq_rt, sq_ite, unr_rt, unr_ite, and_b, or_b, or_t, or_f, and_t, and_f, not_b, bok, vE, fE, Sl.f, Sl.v, sNext, sRet, sAsg, sAsg2, hEv, sPar, hEvA, c1, c2, cA, cVar, cC, cAnd, cOr, cNot, cChain, aNil, aCons, gAdd_int, gSub_int, gNeg_int, gLt_int, gLe_int, gGt_int, gGe_int, gEq_int, gNe_int, min_int, max_int, ix0, ix1, mk_pt, pureS, tName, tPair, sName, sPair, wipeE, gMul_int (c104729 _), gMul_int (c69621 _), gMul_int (c3 _), gMod_int (show (0:Int) < 2147483647 by decide), gMod_int (show (0:Int) < 2147483629 by decide), gMul_int (mulB (modP _).1 (modP _).2), drawn]
theorem e_next {d : D} {l : List PG.Pt} (hd : IsPs d l) (h0 : 0 < l.length) (i j : Nat) : m_l_next [d, .int (i : Int), .int (j : Int)] = .ok (pt (nx l (i + j))) := by
  have hl := len_ps hd
  have hm : gMod (.int ((i : Int) + (j : Int))) (.int (l.length : Int)) = .ok (.int (((i + j) % l.length : Nat) : Int)) := by
    rw [gMod_int (by omega)]
    congr 2
  have hx := ix_ps hd (Nat.mod_lt (i + j) h0)
  simp only [m_l_next, b_l_next, runP_eq, runX_eq, iniS, sSeq_eq, sIf_eq, brB_ok, sq_nx, sq_rt, sq_ite, unr_rt, unr_ite, and_b, or_b, or_t, or_f, and_t, and_f, not_b, bok, vE, fE, Sl.f, Sl.v, sNext, sRet, sAsg, sAsg2, hEv, sPar, hEvA, c1, c2, cA, cVar, cC, cAnd, cOr, cNot, cChain, aNil, aCons, gAdd_int, gSub_int, gNeg_int, gLt_int, gLe_int, gGt_int, gGe_int, gEq_int, gNe_int, min_int, max_int, ix0, ix1, mk_pt, pureS, tName, tPair, sName, sPair, wipeE, List.map_cons, List.map_nil, List.cons_append, List.nil_append, List.length_cons, List.length_nil, List.replicate, List.getElem?_cons_zero, List.getElem?_cons_succ, hl, hm, hx]
  rfl
theorem e_next1 {d : D} {l : List PG.Pt} (hd : IsPs d l) (h0 : 0 < l.length) (i : Nat) : m_l_next [d, .int (i : Int), .int 1] = .ok (pt (nx l (i + 1))) := e_next hd h0 i 1
theorem e_next2 {d : D} {l : List PG.Pt} (hd : IsPs d l) (h0 : 0 < l.length) (i : Nat) : m_l_next [d, .int (i : Int), .int 2] = .ok (pt (nx l (i + 2))) := e_next hd h0 i 2
theorem foldl_sum {Y : Type} (g : Y → Int) : ∀ (xs : List Y) (s : Int), xs.foldl (fun s x => s + g x) s = s + (xs.map g).sum
  | [], s => by simp
  | x :: xs, s => by rw [List.foldl_cons, foldl_sum g xs, List.map_cons, List.sum_cons]; omega
def AllB (B : Int) (l : List PG.Pt) : Prop := ∀ p ∈ l, Bd B p
theorem AllB.at_ {B : Int} {l : List PG.Pt} (h : AllB B l) {i : Nat} (hi : i < l.length) : Bd B (at_ l i) := by
  rw [at_get hi]
  exact h _ (List.getElem_mem hi)
theorem AllB.nx {B : Int} {l : List PG.Pt} (h : AllB B l) (h0 : 0 < l.length) (i : Nat) : Bd B (nx l i) := h.at_ (Nat.mod_lt i h0)
theorem Bd.mono {B C : Int} {p : PG.Pt} (h : Bd B p) (hBC : B ≤ C) : Bd C p := by unfold Bd at *; omega
theorem AllB.mono {B C : Int} {l : List PG.Pt} (h : AllB B l) (hBC : B ≤ C) : AllB C l := fun p hp => Bd.mono (h p hp) hBC
theorem e_area {d : D} {l : List PG.Pt} (hd : IsPs d l) (hb : AllB 1000000 l) : m_l_area [d] = .ok (.int (area l)) := by
  by_cases h0 : 0 < l.length
  · have he := enum_ps hd
    have hfor := forL_acc (fun (i : Nat) => (PyData.tuple [.int (i : Int), pt (at_ l i)] : D)) (sPair 2 3)
      (sSeq (sAsg 4 (cA (pureS m_l_next) (aCons (cVar 0) (aCons (cVar 2) (aCons (cC (.int 1)) aNil)))))
        (sAsg 1 (c2 gSub (c2 gAdd (cVar 1) (c2 gMul (c2 gIx (cVar 3) (cC (.int 0))) (c2 gIx (cVar 4) (cC (.int 1))))) (c2 gMul (c2 gIx (cVar 3) (cC (.int 1))) (c2 gIx (cVar 4) (cC (.int 0)))))))
      (fun (s : Int) (σ : SE) => ∃ a b c, σ = [.val d, .val (.int s), a, b, c]) (fun s i => s + crossT (at_ l i) (nx l (i + 1)))
      (List.range l.length) 0 [.val d, .val (.int 0), .non, .non, .non] ⟨_, _, _, rfl⟩ (by
        rintro s i hi σ ⟨a, b, c, rfl⟩
        have hi := List.mem_range.mp hi
        refine ⟨_, rfl, ?_⟩
        have hn := e_next1 hd h0 i
        have b1 := hb.at_ hi
        have b2 := hb.nx h0 (i + 1)
        unfold Bd at b1 b2
        have m1 : CMulB (at_ l i).1 (nx l (i + 1)).2 = true := mulB (by omega) (by omega)
        have m2 : CMulB (at_ l i).2 (nx l (i + 1)).1 = true := mulB (by omega) (by omega)
        simp [runP_eq, runX_eq, iniS, sSeq_eq, sIf_eq, brB_ok, sq_nx, sq_rt, sq_ite, unr_rt, unr_ite, and_b, or_b, or_t, or_f, and_t, and_f, not_b, bok, vE, fE, Sl.f, Sl.v, sNext, sRet, sAsg, sAsg2, hEv, sPar, hEvA, c1, c2, cA, cVar, cC, cAnd, cOr, cNot, cChain, aNil, aCons, gAdd_int, gSub_int, gNeg_int, gLt_int, gLe_int, gGt_int, gGe_int, gEq_int, gNe_int, min_int, max_int, ix0, ix1, mk_pt, pureS, tName, tPair, sName, sPair, wipeE, hn, gMul_int m1, gMul_int m2, crossT]
        omega)
    obtain ⟨σ', h1, a, b, c, h2⟩ := hfor
    subst h2
    rw [foldl_sum] at h1
    simp [m_l_area, b_l_area, runP_eq, runX_eq, iniS, sSeq_eq, sIf_eq, brB_ok, sq_nx, sq_rt, sq_ite, unr_rt, unr_ite, and_b, or_b, or_t, or_f, and_t, and_f, not_b, bok, vE, fE, Sl.f, Sl.v, sNext, sRet, sAsg, sAsg2, hEv, sPar, hEvA, c1, c2, cA, cVar, cC, cAnd, cOr, cNot, cChain, aNil, aCons, gAdd_int, gSub_int, gNeg_int, gLt_int, gLe_int, gGt_int, gGe_int, gEq_int, gNe_int, min_int, max_int, ix0, ix1, mk_pt, pureS, tName, tPair, sName, sPair, wipeE, sFor, he, h1, area]
  · have : l = [] := List.eq_nil_of_length_eq_zero (by omega)
    subst this
    have he := enum_ps hd
    simp [m_l_area, b_l_area, runP_eq, runX_eq, iniS, sSeq_eq, sIf_eq, brB_ok, sq_nx, sq_rt, sq_ite, unr_rt, unr_ite, and_b, or_b, or_t, or_f, and_t, and_f, not_b, bok, vE, fE, Sl.f, Sl.v, sNext, sRet, sAsg, sAsg2, hEv, sPar, hEvA, c1, c2, cA, cVar, cC, cAnd, cOr, cNot, cChain, aNil, aCons, gAdd_int, gSub_int, gNeg_int, gLt_int, gLe_int, gGt_int, gGe_int, gEq_int, gNe_int, min_int, max_int, ix0, ix1, mk_pt, pureS, tName, tPair, sName, sPair, wipeE, sFor, he, forL, area]
theorem e_turns {d : D} {l : List PG.Pt} (hd : IsPs d l) (hb : AllB 1000000 l) (hl : l.length < 1000) : m_l_turns [d] = .ok (intsD (turns l)) := by
  by_cases h0 : 0 < l.length
  · have he := enum_ps hd
    have hfor := forL_ix (fun (i : Nat) => (PyData.tuple [.int (i : Int), pt (at_ l i)] : D)) (sPair 2 3)
      (sApp 1 (cA (pureS m_l_turn) (aCons (cVar 3) (aCons (cA (pureS m_l_next) (aCons (cVar 0) (aCons (cVar 2) (aCons (cC (.int 1)) aNil)))) (aCons (cA (pureS m_l_next) (aCons (cVar 0) (aCons (cVar 2) (aCons (cC (.int 2)) aNil)))) aNil)))))
      (List.range l.length) (fun (k : Nat) (σ : SE) => ∃ a b, σ = [.val d, .own ((List.range k).map fun i => .int (turn (at_ l i) (nx l (i + 1)) (nx l (i + 2)))), a, b])
      [.val d, .own [], .non, .non] ⟨_, _, rfl⟩ (by
        rintro i hi σ ⟨a, b, rfl⟩
        rw [List.length_range] at hi
        rw [List.getElem_range]
        refine ⟨_, rfl, ?_⟩
        have hn := e_next1 hd h0 i
        have hn2 := e_next2 hd h0 i
        have ht := e_l_turn (hb.at_ hi) (hb.nx h0 (i + 1)) (hb.nx h0 (i + 2))
        have hs : i < sizeLine := Nat.lt_trans (Nat.lt_trans hi hl) (by decide)
        rw [List.range_succ, List.map_append]
        simp [runP_eq, runX_eq, iniS, sSeq_eq, sIf_eq, brB_ok, sq_nx, sq_rt, sq_ite, unr_rt, unr_ite, and_b, or_b, or_t, or_f, and_t, and_f, not_b, bok, vE, fE, Sl.f, Sl.v, sNext, sRet, sAsg, sAsg2, hEv, sPar, hEvA, c1, c2, cA, cVar, cC, cAnd, cOr, cNot, cChain, aNil, aCons, gAdd_int, gSub_int, gNeg_int, gLt_int, gLe_int, gGt_int, gGe_int, gEq_int, gNe_int, min_int, max_int, ix0, ix1, mk_pt, pureS, tName, tPair, sName, sPair, wipeE, sApp, hn, hn2, ht, hs])
    obtain ⟨σ', h1, a, b, h2⟩ := hfor
    rw [List.length_range] at h2
    subst h2
    simp [m_l_turns, b_l_turns, runP_eq, runX_eq, iniS, sSeq_eq, sIf_eq, brB_ok, sq_nx, sq_rt, sq_ite, unr_rt, unr_ite, and_b, or_b, or_t, or_f, and_t, and_f, not_b, bok, vE, fE, Sl.f, Sl.v, sNext, sRet, sAsg, sAsg2, hEv, sPar, hEvA, c1, c2, cA, cVar, cC, cAnd, cOr, cNot, cChain, aNil, aCons, gAdd_int, gSub_int, gNeg_int, gLt_int, gLe_int, gGt_int, gGe_int, gEq_int, gNe_int, min_int, max_int, ix0, ix1, mk_pt, pureS, tName, tPair, sName, sPair, wipeE, sFor, sNil, he, h1, turns, intsD]
  · have : l = [] := List.eq_nil_of_length_eq_zero (by omega)
    subst this
    have he := enum_ps hd
    simp [m_l_turns, b_l_turns, runP_eq, runX_eq, iniS, sSeq_eq, sIf_eq, brB_ok, sq_nx, sq_rt, sq_ite, unr_rt, unr_ite, and_b, or_b, or_t, or_f, and_t, and_f, not_b, bok, vE, fE, Sl.f, Sl.v, sNext, sRet, sAsg, sAsg2, hEv, sPar, hEvA, c1, c2, cA, cVar, cC, cAnd, cOr, cNot, cChain, aNil, aCons, gAdd_int, gSub_int, gNeg_int, gLt_int, gLe_int, gGt_int, gGe_int, gEq_int, gNe_int, min_int, max_int, ix0, ix1, mk_pt, pureS, tName, tPair, sName, sPair, wipeE, sFor, he, forL, turns, sNil, intsD]
theorem any_int (ns : List Int) (k : Int) : ((ns.map PyData.int).any fun z => PyData.eqv z (.int k)) = decide (k ∈ ns) := by
  induction ns with
  | nil => rfl
  | cons n ns ih =>
    rw [List.map_cons, List.any_cons, ih, eqv_int]
    by_cases h : n = k <;> by_cases h2 : k ∈ ns <;> simp [h, h2] <;> omega
theorem fit_ints (ns : List Int) : fitD (intsD ns) = true := by
  have h := depth_ints ns
  simp only [fitD, intsD, PyData.plain, plain_ints, PyData.depth, Bool.true_and, decide_eq_true_eq]
  omega
theorem in_ints (k : Int) (ns : List Int) : gIn (.int k) (intsD ns) = .ok (.bool (decide (k ∈ ns))) := by
  have h := fit_ints ns
  unfold gIn gInB
  unfold intsD at h ⊢
  dsimp only
  rw [fit_int, h, any_int]
  simp
theorem lenSet_ps {d : D} {l : List PG.Pt} (hd : IsPs d l) (h : l.length < 64) : gLenSet d = .ok (.int l.eraseDups.length) := by
  rcases hd with e | e <;> subst e <;> (unfold gLenSet; dsimp only; rw [asPts_map]; dsimp only; rw [if_pos h])
theorem le_size {m : Nat} (h : m < 1000) : m ≤ sizeLine := Nat.le_trans (Nat.le_of_lt h) (by decide)
theorem e_spots (n w : Int) (m : Nat) (hw : 0 < w) (hm : m < 1000) : m_l_spots [.int n, .int w, .int (m : Int)] = .ok (.list ((spots n w m).map pt)) := by
  unfold m_l_spots b_l_spots
  rw [runP_eq]
  have h := @cLc_map Nat (fun (k : Nat) => (.int (k : Int) : D)) (fun ρ => ((aCons (cVar 2) aNil) ρ).bind rng1) [3] (tName 3) (cA mkTup (aCons (c2 gMod (cA (pureS m_l_drawn) (aCons (cVar 0) (aCons (c2 gMul (cC (.int 2)) (cVar 3)) aNil))) (cVar 1)) (aCons (c2 gMod (cA (pureS m_l_drawn) (aCons (cVar 0) (aCons (c2 gAdd (c2 gMul (cC (.int 2)) (cVar 3)) (cC (.int 1))) aNil))) (cVar 1)) aNil)))
    (fE (iniS 4 [.int n, .int w, .int (m : Int)])) (List.range m) (fun k => pt (drawn n (2 * (k : Int)) % w, drawn n (2 * (k : Int) + 1) % w))
    ((at1 (d := .int (m : Int)) rfl).trans (rng_one (Nat.lt_trans hm (by decide)))) (by rw [List.length_range]; exact le_size hm) (by
      intro k hk
      refine ⟨_, rfl, ?_⟩
      simp [runP_eq, runX_eq, iniS, sSeq_eq, sIf_eq, brB_ok, sq_nx, sq_rt, sq_ite, unr_rt, unr_ite, and_b, or_b, or_t, or_f, and_t, and_f, not_b, bok, vE, fE, Sl.f, Sl.v, sNext, sRet, sAsg, sAsg2, hEv, sPar, hEvA, c1, c2, cA, cVar, cC, cAnd, cOr, cNot, cChain, aNil, aCons, gAdd_int, gSub_int, gNeg_int, gLt_int, gLe_int, gGt_int, gGe_int, gEq_int, gNe_int, min_int, max_int, ix0, ix1, mk_pt, pureS, tName, tPair, sName, sPair, wipeE, gMul_int (c2' _), e_drawn, gMod_int hw])
  rw [sRet_ok h, unr_rt]
  simp [spots]
theorem eraseDups_lt {Y : Type} [BEq Y] [LawfulBEq Y] : ∀ (n : Nat) (l : List Y), l.length ≤ n → (l.eraseDups.length < l.length ↔ ¬ l.Nodup) ∧ l.eraseDups.length ≤ l.length
  | 0, l, h => by
    have : l = [] := List.eq_nil_of_length_eq_zero (by omega)
    subst this
    simp
  | n + 1, [], h => by simp
  | n + 1, x :: l, h => by
    rw [List.eraseDups_cons]
    have hf : (l.filter fun b => !b == x).length ≤ l.length := List.length_filter_le ..
    have ih := eraseDups_lt n (l.filter fun b => !b == x) (by simp at h; omega)
    by_cases hx : x ∈ l
    · have hlt : (l.filter fun b => !b == x).length < l.length := by
        rw [List.length_filter_lt_length_iff_exists]
        exact ⟨x, hx, by simp⟩
      constructor
      · constructor
        · intro _ hn
          exact (List.nodup_cons.mp hn).1 hx
        · intro _
          rw [List.length_cons, List.length_cons]
          omega
      · rw [List.length_cons, List.length_cons]; omega
    · have hs : (l.filter fun b => !b == x) = l := by
        rw [List.filter_eq_self]
        intro a ha
        have : a ≠ x := fun e => hx (e ▸ ha)
        simp [this]
      rw [hs] at ih ⊢
      rw [List.length_cons, List.length_cons, List.nodup_cons]
      constructor
      · constructor
        · intro q hn
          exact (ih.1.mp (by omega)) hn.2
        · intro q
          have : ¬ l.Nodup := fun hn => q ⟨hx, hn⟩
          have := ih.1.mpr this
          omega
      · omega
end PL

set_option Elab.async false
set_option linter.all false
set_option maxRecDepth 100000
set_option maxHeartbeats 1000000
namespace PL
open PySem L2 PG
def badIn (l : List PG.Pt) (i k : Nat) : Bool := !(decide ((i + 2 + k + 1) % l.length = i) || !meetL (at_ l i) (nx l (i + 1)) (at_ l (i + 2 + k)) (nx l (i + 2 + k + 1)))
theorem simple_any (l : List PG.Pt) : ((List.range l.length).any fun i => (List.range (l.length - (i + 2))).any fun k => badIn l i k) = !simpleL l := by
  unfold simpleL badIn
  rw [List.not_all_eq_any_not]
  congr 1
  funext i
  rw [List.not_all_eq_any_not]
theorem mod_nat {i n : Nat} (h0 : 0 < n) : gMod (.int (i : Int)) (.int (n : Int)) = .ok (.int ((i % n : Nat) : Int)) := by
  rw [gMod_int (by omega)]
  congr 2
def innerG : CS := (sIf (c2 gNe (c2 gMod (c2 gAdd (cVar 3) (cC (.int 1))) (cVar 1)) (cVar 2)) (sSeq (sAsg 4 (c2 gIx (cVar 0) (cVar 3)))
 (sSeq (sAsg 5 (cA (pureS m_l_next) (aCons (cVar 0) (aCons (cVar 3) (aCons (cC (.int 1)) aNil)))))
 (sIf (cA (pureS m_l_meet) (aCons (c2 gIx (cVar 0) (cVar 2)) (aCons (cA (pureS m_l_next) (aCons (cVar 0) (aCons (cVar 2) (aCons (cC (.int 1)) aNil)))) (aCons (cVar 4) (aCons (cVar 5) aNil))))) (sRet (cC (.bool false))) sNext))) sNext)
theorem e_good {d : D} {l : List PG.Pt} (hd : IsPs d l) (hb : AllB 1000000 l) (hl : l.length < 64) : m_l_is_good [d] = .ok (.bool (good l)) := by
  have hln := len_ps hd
  have hls := lenSet_ps hd hl
  have htu := e_turns hd hb (by omega)
  have hin := in_ints 0 (turns l)
  have hds : decide ((l.eraseDups.length : Int) < (l.length : Int)) = !decide l.Nodup := by
    have := (eraseDups_lt l.length l (Nat.le_refl _)).1
    by_cases h : l.Nodup
    · have h2 : ¬ l.eraseDups.length < l.length := fun q => this.mp q h
      simp [h]; omega
    · have h2 := this.mpr h
      simp [h]; omega
  have hinner : ∀ i, i < l.length → ∀ σ, (∃ x a b c, σ = [.val d, .val (.int (l.length : Int)), x, a, b, c]) →
      ((List.range (l.length - (i + 2))).any (badIn l i) = true → sFor (fun ρ => ((aCons (c2 gAdd (cVar 2) (cC (.int 2))) (aCons (cVar 1) aNil)) ρ).bind rng2) (sName 3) innerG (σ.set 2 (.val (.int (i : Int)))) = .rt (.bool false)) ∧
      ((List.range (l.length - (i + 2))).any (badIn l i) = false → ∃ σ', sFor (fun ρ => ((aCons (c2 gAdd (cVar 2) (cC (.int 2))) (aCons (cVar 1) aNil)) ρ).bind rng2) (sName 3) innerG (σ.set 2 (.val (.int (i : Int)))) = .nx σ' ∧ ∃ x a b c, σ' = [.val d, .val (.int (l.length : Int)), x, a, b, c]) := by
    rintro i hi σ ⟨x, a, b, c, rfl⟩
    have hr : ((aCons (c2 gAdd (cVar 2) (cC (.int 2))) (aCons (cVar 1) aNil)) (vE [.val d, .val (.int (l.length : Int)), .val (.int (i : Int)), a, b, c])).bind rng2 = .ok ((List.range (l.length - (i + 2))).map fun (k : Nat) => .int ((i + 2 + k : Nat) : Int)) :=
      (at2 (d := .int ((i + 2 : Nat) : Int)) (d' := .int (l.length : Int)) rfl rfl).trans (rng_two (Nat.lt_trans hl (by decide)) (Nat.lt_of_lt_of_le (show i + 2 < 100 by omega) (by decide)))
    show (_ → sFor _ _ _ [.val d, .val (.int (l.length : Int)), .val (.int (i : Int)), a, b, c] = _) ∧ (_ → ∃ σ', sFor _ _ _ [.val d, .val (.int (l.length : Int)), .val (.int (i : Int)), a, b, c] = _ ∧ _)
    rw [sFor_ok (cs := fun ρ => ((aCons (c2 gAdd (cVar 2) (cC (.int 2))) (aCons (cVar 1) aNil)) ρ).bind rng2) hr]
    have key := forL_any (fun (k : Nat) => (.int ((i + 2 + k : Nat) : Int) : D)) (sName 3) innerG (fun σ => ∃ a b c, σ = [.val d, .val (.int (l.length : Int)), .val (.int (i : Int)), a, b, c]) (badIn l i) (.bool false) (List.range (l.length - (i + 2)))
      [.val d, .val (.int (l.length : Int)), .val (.int (i : Int)), a, b, c] ⟨a, b, c, rfl⟩ (by
        rintro k hk σ ⟨a, b, c, rfl⟩
        have hk := List.mem_range.mp hk
        refine ⟨_, rfl, ?_⟩
        have h0 : 0 < l.length := by omega
        have hj : i + 2 + k < l.length := by omega
        have hm : gMod (.int (((i + 2 + k : Nat) : Int) + 1)) (.int (l.length : Int)) = .ok (.int (((i + 2 + k + 1) % l.length : Nat) : Int)) := mod_nat (i := i + 2 + k + 1) h0
        have hx := ix_ps hd hj
        have hxi := ix_ps hd hi
        have hn := e_next1 hd h0 (i + 2 + k)
        have hni := e_next1 hd h0 i
        have hmt := e_l_meet (hb.at_ hi) (hb.nx h0 (i + 1)) (hb.at_ hj) (hb.nx h0 (i + 2 + k + 1))
        have hdec : decide ((((i + 2 + k + 1) % l.length : Nat) : Int) = (i : Int)) = decide ((i + 2 + k + 1) % l.length = i) := by
          exact decide_eq_decide.mpr (by omega)
        generalize hj' : i + 2 + k = j at *
        have hgo : innerG [.val d, .val (.int (l.length : Int)), .val (.int (i : Int)), .val (.int (j : Int)), b, c] =
            if badIn l i k = true then .rt (.bool false) else if decide ((j + 1) % l.length = i) = true then .nx [.val d, .val (.int (l.length : Int)), .val (.int (i : Int)), .val (.int (j : Int)), b, c]
              else .nx [.val d, .val (.int (l.length : Int)), .val (.int (i : Int)), .val (.int (j : Int)), .val (pt (at_ l j)), .val (pt (nx l (j + 1)))] := by
          unfold badIn
          rw [hj']
          cases h1 : decide ((j + 1) % l.length = i) <;> cases h2 : meetL (at_ l i) (nx l (i + 1)) (at_ l j) (nx l (j + 1)) <;>
            rw [h1] at hdec <;> rw [h2] at hmt <;>
            simp only [innerG, runP_eq, runX_eq, iniS, sSeq_eq, sIf_eq, brB_ok, sq_nx, sq_rt, sq_ite, unr_rt, unr_ite, and_b, or_b, or_t, or_f, and_t, and_f, not_b, bok, vE, fE, Sl.f, Sl.v, sNext, sRet, sAsg, sAsg2, hEv, sPar, hEvA, c1, c2, cA, cVar, cC, cAnd, cOr, cNot, cChain, aNil, aCons, gAdd_int, gSub_int, gNeg_int, gLt_int, gLe_int, gGt_int, gGe_int, gEq_int, gNe_int, min_int, max_int, ix0, ix1, mk_pt, pureS, tName, tPair, sName, sPair, wipeE, List.map_cons, List.map_nil, List.getElem?_cons_zero, List.getElem?_cons_succ, hm, hx, hxi, hn, hni, hmt, hdec, Bool.not_true, Bool.not_false, if_true, if_false, List.set_cons_succ, List.set_cons_zero, Bool.false_eq_true, Bool.or_false, Bool.or_true, Bool.true_or, Bool.false_or]
        show (_ → innerG [.val d, .val (.int (l.length : Int)), .val (.int (i : Int)), .val (.int (j : Int)), b, c] = _) ∧ (_ → ∃ σ', innerG [.val d, .val (.int (l.length : Int)), .val (.int (i : Int)), .val (.int (j : Int)), b, c] = _ ∧ _)
        rw [hgo]
        refine ⟨fun h => by rw [if_pos h], fun h => ?_⟩
        rw [if_neg (by rw [h]; exact Bool.false_ne_true)]
        split
        · exact ⟨_, rfl, _, _, _, rfl⟩
        · exact ⟨_, rfl, _, _, _, rfl⟩)
    refine ⟨key.1, fun h => ?_⟩
    obtain ⟨σ', h1, a, b, c, h2⟩ := key.2 h
    exact ⟨σ', h1, _, a, b, c, h2⟩
  have houter := forL_any (fun (i : Nat) => (.int (i : Int) : D)) (sName 2) (sFor (fun ρ => ((aCons (c2 gAdd (cVar 2) (cC (.int 2))) (aCons (cVar 1) aNil)) ρ).bind rng2) (sName 3) innerG) (fun σ => ∃ x a b c, σ = [.val d, .val (.int (l.length : Int)), x, a, b, c])
    (fun i => (List.range (l.length - (i + 2))).any (badIn l i)) (.bool false) (List.range l.length) [.val d, .val (.int (l.length : Int)), .non, .non, .non, .non] ⟨_, _, _, _, rfl⟩ (by
      rintro i hi σ hσ
      exact ⟨_, rfl, (hinner i (List.mem_range.mp hi) σ hσ).1, (hinner i (List.mem_range.mp hi) σ hσ).2⟩)
  rw [show (fun i => (List.range (l.length - (i + 2))).any (badIn l i)) = fun i => (List.range (l.length - (i + 2))).any fun k => badIn l i k from rfl, simple_any] at houter
  have hr : ((aCons (cVar 1) aNil) (vE [.val d, .val (.int (l.length : Int)), .non, .non, .non, .non])).bind rng1 = .ok ((List.range l.length).map fun (i : Nat) => .int (i : Int)) :=
    (at1 (d := .int (l.length : Int)) rfl).trans (rng_one (Nat.lt_trans hl (by decide)))
  have hlast : sSeq (sFor (fun ρ => ((aCons (cVar 1) aNil) ρ).bind rng1) (sName 2) (sFor (fun ρ => ((aCons (c2 gAdd (cVar 2) (cC (.int 2))) (aCons (cVar 1) aNil)) ρ).bind rng2) (sName 3) innerG)) (sRet (cC (.bool true))) [.val d, .val (.int (l.length : Int)), .non, .non, .non, .non] = .rt (.bool (simpleL l)) := by
    rw [sSeq_eq, sFor_ok (cs := fun ρ => ((aCons (cVar 1) aNil) ρ).bind rng1) hr]
    cases hs : simpleL l with
    | true =>
      obtain ⟨σ', h1, _⟩ := houter.2 (by rw [hs]; rfl)
      rw [h1]; rfl
    | false =>
      rw [houter.1 (by rw [hs]; rfl)]; rfl
  have hif : sIf (cOr (c2 gLt (c1 gLenSet (cVar 0)) (cVar 1)) (c2 gIn (cC (.int 0)) (cA (pureS m_l_turns) (aCons (cVar 0) aNil)))) (sRet (cC (.bool false))) sNext [.val d, .val (.int (l.length : Int)), .non, .non, .non, .non] =
      if (!decide l.Nodup || decide (0 ∈ turns l)) = true then .rt (.bool false) else .nx [.val d, .val (.int (l.length : Int)), .non, .non, .non, .non] := by
    simp only [runP_eq, runX_eq, iniS, sSeq_eq, sIf_eq, brB_ok, sq_nx, sq_rt, sq_ite, unr_rt, unr_ite, and_b, or_b, or_t, or_f, and_t, and_f, not_b, bok, vE, fE, Sl.f, Sl.v, sNext, sRet, sAsg, sAsg2, hEv, sPar, hEvA, c1, c2, cA, cVar, cC, cAnd, cOr, cNot, cChain, aNil, aCons, gAdd_int, gSub_int, gNeg_int, gLt_int, gLe_int, gGt_int, gGe_int, gEq_int, gNe_int, min_int, max_int, ix0, ix1, mk_pt, pureS, tName, tPair, sName, sPair, wipeE, List.map_cons, List.map_nil, List.getElem?_cons_zero, List.getElem?_cons_succ, hls, htu, hin, hds]
  unfold m_l_is_good b_l_is_good
  rw [runP_eq, sSeq_eq, show sAsg 1 (cA gLen (aCons (cVar 0) aNil)) (iniS 6 [d]) = .nx [.val d, .val (.int (l.length : Int)), .non, .non, .non, .non] from sAsg_ok (by
    simp [runP_eq, runX_eq, iniS, sSeq_eq, sIf_eq, brB_ok, sq_nx, sq_rt, sq_ite, unr_rt, unr_ite, and_b, or_b, or_t, or_f, and_t, and_f, not_b, bok, vE, fE, Sl.f, Sl.v, sNext, sRet, sAsg, sAsg2, hEv, sPar, hEvA, c1, c2, cA, cVar, cC, cAnd, cOr, cNot, cChain, aNil, aCons, gAdd_int, gSub_int, gNeg_int, gLt_int, gLe_int, gGt_int, gGe_int, gEq_int, gNe_int, min_int, max_int, ix0, ix1, mk_pt, pureS, tName, tPair, sName, sPair, wipeE, hln]), sq_nx, sSeq_eq, hif, good]
  unfold innerG at hlast
  cases decide l.Nodup with
  | false =>
    rw [if_pos (by rfl)]
    rfl
  | true =>
    cases decide (0 ∈ turns l) with
    | true =>
      rw [if_pos (by rfl)]
      rfl
    | false =>
      rw [if_neg (by decide), sq_nx, hlast, unr_rt]
      simp
end PL

set_option Elab.async false
set_option linter.all false
set_option maxRecDepth 100000
set_option maxHeartbeats 1000000
namespace PL
open PySem L2 PG
theorem eqv_pt (p q : PG.Pt) : PyData.eqv (pt p) (pt q) = decide (p = q) := by
  obtain ⟨a, b⟩ := p
  obtain ⟨c, d⟩ := q
  have h : PyData.eqv (pt (a, b)) (pt (c, d)) = (PyData.eqv (.int a) (.int c) && (PyData.eqv (.int b) (.int d) && true)) := by
    simp only [pt, PyData.eqv, PyData.eqvAll]
  rw [h, eqv_int, eqv_int]
  by_cases h1 : a = c <;> by_cases h2 : b = d <;> simp [h1, h2]
theorem eqvAll_pts : ∀ l m : List PG.Pt, PyData.eqvAll (l.map pt) (m.map pt) = decide (l = m)
  | [], [] => by simp [PyData.eqvAll]
  | [], _ :: _ => by simp [PyData.eqvAll]
  | _ :: _, [] => by simp [PyData.eqvAll]
  | p :: l, q :: m => by
    rw [List.map_cons, List.map_cons, PyData.eqvAll, eqv_pt, eqvAll_pts l m]
    by_cases h1 : p = q <;> by_cases h2 : l = m <;> simp [h1, h2]
theorem fit_ps {d : D} {l : List PG.Pt} (hd : IsPs d l) : fitD d = true := by
  have h1 := plain_pts l
  have h2 := depth_pts l
  have h3 : PyData.depthAll (l.map pt) + 1 ≤ 60 := Nat.le_trans (Nat.succ_le_succ h2) (by decide)
  rcases hd with e | e <;> subst e <;> simp [fitD, PyData.plain, h1, PyData.depth] <;> exact Nat.le_of_succ_le_succ h3
theorem fit_pt (p : PG.Pt) : fitD (pt p) = true := by
  unfold fitD
  rw [plain_pt, depth_pt]
  rfl
theorem gEq_tt (l m : List PG.Pt) : gEq (.tuple (l.map pt)) (.tuple (m.map pt)) = .ok (.bool (decide (l = m))) := by
  unfold gEq
  rw [fit_ps (.inr rfl), fit_ps (.inr rfl)]
  simp only [PyData.eqv, eqvAll_pts]
  rfl
theorem gNe_tt (l m : List PG.Pt) : gNe (.tuple (l.map pt)) (.tuple (m.map pt)) = .ok (.bool (!decide (l = m))) := by
  unfold gNe
  rw [fit_ps (.inr rfl), fit_ps (.inr rfl)]
  simp only [PyData.eqv, eqvAll_pts]
  rfl
theorem gEq_ll (l m : List PG.Pt) : gEq (.list (l.map pt)) (.list (m.map pt)) = .ok (.bool (decide (l = m))) := by
  unfold gEq
  rw [fit_ps (.inl rfl), fit_ps (.inl rfl)]
  simp only [PyData.eqv, eqvAll_pts]
  rfl
theorem gNe_ll (l m : List PG.Pt) : gNe (.list (l.map pt)) (.list (m.map pt)) = .ok (.bool (!decide (l = m))) := by
  unfold gNe
  rw [fit_ps (.inl rfl), fit_ps (.inl rfl)]
  simp only [PyData.eqv, eqvAll_pts]
  rfl
theorem gEq_pp (p q : PG.Pt) : gEq (pt p) (pt q) = .ok (.bool (decide (p = q))) := by
  unfold gEq
  rw [fit_pt, fit_pt, eqv_pt]
  rfl
theorem gNe_pp (p q : PG.Pt) : gNe (pt p) (pt q) = .ok (.bool (!decide (p = q))) := by
  unfold gNe
  rw [fit_pt, fit_pt, eqv_pt]
  rfl
theorem any_pt (l : List PG.Pt) (p : PG.Pt) : ((l.map pt).any fun z => PyData.eqv z (pt p)) = decide (p ∈ l) := by
  induction l with
  | nil => rfl
  | cons q l ih =>
    rw [List.map_cons, List.any_cons, ih, eqv_pt]
    by_cases h : q = p
    · simp [h]
    · by_cases h2 : p ∈ l <;> simp [h, h2]
      exact fun e => h e.symm
theorem in_ps {d : D} {l : List PG.Pt} (hd : IsPs d l) (p : PG.Pt) : gIn (pt p) d = .ok (.bool (decide (p ∈ l))) := by
  have h := fit_ps hd
  unfold gIn gInB
  rcases hd with e | e <;> subst e <;> dsimp only <;> rw [fit_pt, h, any_pt] <;> simp
theorem notIn_ps {d : D} {l : List PG.Pt} (hd : IsPs d l) (p : PG.Pt) : gNotIn (pt p) d = .ok (.bool (!decide (p ∈ l))) := by
  have h := fit_ps hd
  unfold gNotIn gInB
  rcases hd with e | e <;> subst e <;> dsimp only <;> rw [fit_pt, h, any_pt] <;> simp
theorem min_ps {d : D} {l : List PG.Pt} (hd : IsPs d l) (h0 : l ≠ []) : gMin [d] = .ok (pt (PG.minL l)) := by
  cases l with
  | nil => exact absurd rfl h0
  | cons p l =>
    have h1 : minL ((p :: l).map pt) = .ok (pt (PG.minL (p :: l))) := by
      unfold minL
      rw [asInts_pts, asPts_map]
      rfl
    rcases hd with e | e <;> subst e <;> exact h1
theorem minP_mem (x : PG.Pt) : ∀ xs : List PG.Pt, PG.minP x xs = x ∨ PG.minP x xs ∈ xs := by
  intro xs
  unfold PG.minP
  induction xs generalizing x with
  | nil => exact .inl rfl
  | cons y ys ih =>
    rw [List.foldl_cons]
    split
    · rcases ih y with h | h
      · exact .inr (by rw [h]; exact List.mem_cons_self ..)
      · exact .inr (List.mem_cons_of_mem _ h)
    · rcases ih x with h | h
      · exact .inl h
      · exact .inr (List.mem_cons_of_mem _ h)
theorem minL_mem {l : List PG.Pt} (h : l ≠ []) : PG.minL l ∈ l := by
  cases l with
  | nil => exact absurd rfl h
  | cons p l =>
    show PG.minP p l ∈ p :: l
    rcases minP_mem p l with h | h
    · rw [h]; exact List.mem_cons_self ..
    · exact List.mem_cons_of_mem _ h
theorem place_pt {p : PG.Pt} : ∀ {l : List PG.Pt}, p ∈ l → placeD (pt p) (l.map pt) = some (l.idxOf p)
  | q :: l, h => by
    rw [List.map_cons]
    unfold placeD
    rw [eqv_pt, List.idxOf_cons]
    by_cases h1 : q = p
    · simp [h1]
    · have h2 : p ∈ l := by
        rcases List.mem_cons.mp h with e | e
        · exact absurd e.symm h1
        · exact e
      rw [place_pt h2]
      have h3 : (q == p) = false := beq_false_of_ne h1
      simp [h1, h3]
theorem lay_pts : ∀ l : List PG.Pt, PyData.canLayAll0 (l.map pt) = true
  | [] => rfl
  | p :: l => by rw [List.map_cons, PyData.canLayAll0, lay_pts l]; rfl
theorem shaped_pts (l : List PG.Pt) : SeqAt.shaped (.list (l.map pt)) = true := by
  have h1 := lay_pts l
  have h2 := depth_pts l
  have h3 : PyData.depthAll (l.map pt) + 1 ≤ 64 := Nat.le_trans (Nat.succ_le_succ h2) (by decide)
  simp [SeqAt.shaped, PyData.canLay0, h1, PyData.depth]
  exact Nat.le_of_succ_le_succ h3
theorem shaped_pt (p : PG.Pt) : SeqAt.shaped (pt p) = true := by
  have := depth_pt p
  unfold SeqAt.shaped
  rw [this]
  rfl
theorem index_ps {l : List PG.Pt} {p : PG.Pt} (h : p ∈ l) : gIndex (.list (l.map pt)) [pt p] = .ok (.int ((l.idxOf p : Nat) : Int)) := by
  unfold gIndex
  dsimp only
  rw [shaped_pts, shaped_pt, place_pt h]
  rfl
theorem cut_from (l : List PG.Pt) {k : Nat} (h : k ≤ l.length) : gSl (.list (l.map pt)) (some (k : Int)) none = .ok (.list ((l.drop k).map pt)) := by
  unfold gSl cutD
  dsimp only
  rw [HT.sIx_nat, HT.sIx_none, List.length_map, Nat.min_eq_left h, ← List.map_drop, ← List.map_take, List.take_of_length_le (by rw [List.length_drop]; omega)]
theorem cut_to (l : List PG.Pt) {k : Nat} (h : k ≤ l.length) : gSl (.list (l.map pt)) none (some (k : Int)) = .ok (.list ((l.take k).map pt)) := by
  unfold gSl cutD
  dsimp only
  rw [HT.sIx_nat, HT.sIx_none, List.length_map, Nat.min_eq_left h, ← List.map_drop, ← List.map_take]
  rfl
theorem add_ll (l m : List PG.Pt) (h : l.length + m.length < 1000) : gAdd (.list (l.map pt)) (.list (m.map pt)) = .ok (.list ((l ++ m).map pt)) := by
  unfold gAdd
  dsimp only
  rw [if_pos (by rw [List.length_map, List.length_map]; exact le_size h), List.map_append]
theorem list_ps {d : D} {l : List PG.Pt} (hd : IsPs d l) : gList [d] = .ok (.list (l.map pt)) := by
  rcases hd with e | e <;> subst e <;> rfl
theorem tuple_ps {d : D} {l : List PG.Pt} (hd : IsPs d l) : gTuple [d] = .ok (.tuple (l.map pt)) := by
  rcases hd with e | e <;> subst e <;> rfl
theorem rev_ps (l : List PG.Pt) : gRev (.list (l.map pt)) = .ok (.list (l.reverse.map pt)) := by
  unfold gRev
  dsimp only
  rw [List.map_reverse]
theorem AllB.rev {B : Int} {l : List PG.Pt} (h : AllB B l) : AllB B l.reverse := fun p hp => h p (List.mem_reverse.mp hp)
theorem orient_len (l : List PG.Pt) : (orient l).length = l.length := by unfold orient; split <;> simp
theorem orient_mem {l : List PG.Pt} {p : PG.Pt} : p ∈ orient l ↔ p ∈ l := by unfold orient; split <;> simp
theorem e_in_order {d : D} {l : List PG.Pt} (hd : IsPs d l) (hb : AllB 1000000 l) (h0 : l ≠ []) (hl : l.length < 900) : m_l_in_order [d] = .ok (.tuple ((inOrder l).map pt)) := by
  have hlist := list_ps hd
  have harea := e_area (.inl rfl : IsPs (.list (l.map pt)) l) hb
  have hif : sIf (c2 gLt (cA (pureS m_l_area) (aCons (cVar 1) aNil)) (cC (.int 0))) (sAsg 1 (c1 gRev (cVar 1))) sNext [.val d, .val (.list (l.map pt)), .non] = .nx [.val d, .val (.list ((orient l).map pt)), .non] := by
    unfold orient
    by_cases h : area l < 0
    · simp [runP_eq, runX_eq, iniS, sSeq_eq, sIf_eq, brB_ok, sq_nx, sq_rt, sq_ite, unr_rt, unr_ite, and_b, or_b, or_t, or_f, and_t, and_f, not_b, bok, vE, fE, Sl.f, Sl.v, sNext, sRet, sAsg, sAsg2, hEv, sPar, hEvA, c1, c2, cA, cVar, cC, cAnd, cOr, cNot, cChain, aNil, aCons, gAdd_int, gSub_int, gNeg_int, gLt_int, gLe_int, gGt_int, gGe_int, gEq_int, gNe_int, min_int, max_int, ix0, ix1, mk_pt, pureS, tName, tPair, sName, sPair, wipeE, harea, h, rev_ps]
    · simp [runP_eq, runX_eq, iniS, sSeq_eq, sIf_eq, brB_ok, sq_nx, sq_rt, sq_ite, unr_rt, unr_ite, and_b, or_b, or_t, or_f, and_t, and_f, not_b, bok, vE, fE, Sl.f, Sl.v, sNext, sRet, sAsg, sAsg2, hEv, sPar, hEvA, c1, c2, cA, cVar, cC, cAnd, cOr, cNot, cChain, aNil, aCons, gAdd_int, gSub_int, gNeg_int, gLt_int, gLe_int, gGt_int, gGe_int, gEq_int, gNe_int, min_int, max_int, ix0, ix1, mk_pt, pureS, tName, tPair, sName, sPair, wipeE, harea, h]
  unfold m_l_in_order b_l_in_order
  rw [runP_eq, sSeq_eq, show sAsg 1 (cA gList (aCons (cVar 0) aNil)) (iniS 3 [d]) = .nx [.val d, .val (.list (l.map pt)), .non] from sAsg_ok (by simp [runP_eq, runX_eq, iniS, sSeq_eq, sIf_eq, brB_ok, sq_nx, sq_rt, sq_ite, unr_rt, unr_ite, and_b, or_b, or_t, or_f, and_t, and_f, not_b, bok, vE, fE, Sl.f, Sl.v, sNext, sRet, sAsg, sAsg2, hEv, sPar, hEvA, c1, c2, cA, cVar, cC, cAnd, cOr, cNot, cChain, aNil, aCons, gAdd_int, gSub_int, gNeg_int, gLt_int, gLe_int, gGt_int, gGe_int, gEq_int, gNe_int, min_int, max_int, ix0, ix1, mk_pt, pureS, tName, tPair, sName, sPair, wipeE, hlist]), sq_nx, sSeq_eq, hif, sq_nx]
  have h0' : orient l ≠ [] := fun e => h0 (List.eq_nil_of_length_eq_zero (by rw [← orient_len, e]; rfl))
  have hmem := minL_mem h0'
  have hmin := min_ps (.inl rfl : IsPs (.list ((orient l).map pt)) (orient l)) h0'
  have hidx := index_ps hmem
  have hlt := List.idxOf_lt_length_of_mem hmem
  unfold inOrder
  have hlen := orient_len l
  generalize (orient l).idxOf (PG.minL (orient l)) = k at *
  have hc1 := cut_from (orient l) (Nat.le_of_lt hlt)
  have hc2 := cut_to (orient l) (Nat.le_of_lt hlt)
  have hadd := add_ll ((orient l).drop k) ((orient l).take k) (by rw [List.length_drop, List.length_take]; omega)
  have htup := tuple_ps (.inl rfl : IsPs (.list (((orient l).drop k ++ (orient l).take k).map pt)) _)
  rw [sSeq_eq, show sAsg 2 (cM "list" gIndex (cVar 1) (aCons (cA gMin (aCons (cVar 1) aNil)) aNil)) [.val d, .val (.list ((orient l).map pt)), .non] = .nx [.val d, .val (.list ((orient l).map pt)), .val (.int (k : Int))] from sAsg_ok (by
    simp [runP_eq, runX_eq, iniS, sSeq_eq, sIf_eq, brB_ok, sq_nx, sq_rt, sq_ite, unr_rt, unr_ite, and_b, or_b, or_t, or_f, and_t, and_f, not_b, bok, vE, fE, Sl.f, Sl.v, sNext, sRet, sAsg, sAsg2, hEv, sPar, hEvA, c1, c2, cA, cVar, cC, cAnd, cOr, cNot, cChain, aNil, aCons, gAdd_int, gSub_int, gNeg_int, gLt_int, gLe_int, gGt_int, gGe_int, gEq_int, gNe_int, min_int, max_int, ix0, ix1, mk_pt, pureS, tName, tPair, sName, sPair, wipeE, cM, isTyD, hmin, hidx]), sq_nx]
  rw [sRet_ok (d := .tuple ((rot (orient l) k).map pt)) (by
    unfold rot
    rw [← htup]
    simp only [runP_eq, runX_eq, iniS, sSeq_eq, sIf_eq, brB_ok, sq_nx, sq_rt, sq_ite, unr_rt, unr_ite, and_b, or_b, or_t, or_f, and_t, and_f, not_b, bok, vE, fE, Sl.f, Sl.v, sNext, sRet, sAsg, sAsg2, hEv, sPar, hEvA, c1, c2, cA, cVar, cC, cAnd, cOr, cNot, cChain, aNil, aCons, gAdd_int, gSub_int, gNeg_int, gLt_int, gLe_int, gGt_int, gGe_int, gEq_int, gNe_int, min_int, max_int, ix0, ix1, mk_pt, pureS, tName, tPair, sName, sPair, wipeE, cSl, oSome, oNone, List.map_cons, List.map_nil, List.getElem?_cons_zero, List.getElem?_cons_succ, hc1, hc2, hadd]), unr_rt]
end PL

set_option Elab.async false
set_option linter.all false
set_option maxRecDepth 100000
set_option maxHeartbeats 1000000
namespace PL
open PySem L2 PG
theorem ix_neg {Y : Type} {f : Y → D} {l : List Y} {k : Nat} (h1 : 0 < k) (h2 : k ≤ l.length) : atI (l.map f) (-(k : Int)) = some (f (l[l.length - k]'(by omega))) := by
  unfold atI ixN
  rw [List.length_map, if_neg (by omega), if_pos (by omega)]
  have : (-(k : Int) + (l.length : Int)).toNat = l.length - k := by omega
  simp [this]
  exact ⟨_, (by rw [List.getElem?_eq_getElem (by omega)]), rfl⟩
theorem ix_psN {d : D} {l : List PG.Pt} (hd : IsPs d l) {k : Nat} (h1 : 0 < k) (h2 : k ≤ l.length) : gIx d (.int (-(k : Int))) = .ok (pt (at_ l (l.length - k))) := by
  rw [at_get (show l.length - k < l.length by omega)]
  rcases hd with e | e <;> subst e <;> (unfold gIx; dsimp only; rw [ix_neg h1 h2]; rfl)
theorem ix_prv {d : D} {l : List PG.Pt} (hd : IsPs d l) {i : Nat} (h : i < l.length) : gIx d (.int ((i : Int) - 1)) = .ok (pt (prv l i)) := by
  unfold prv
  by_cases h0 : i = 0
  · subst h0
    rw [if_pos rfl]
    exact ix_psN hd (Nat.zero_lt_one) (by omega)
  · rw [if_neg h0, show (i : Int) - 1 = ((i - 1 : Nat) : Int) by omega]
    exact ix_ps hd (by omega)
theorem AllB.prv {B : Int} {l : List PG.Pt} (h : AllB B l) {i : Nat} (hi : i < l.length) : Bd B (prv l i) := by
  unfold PG.prv
  split
  · exact h.at_ (by omega)
  · exact h.at_ (by omega)
theorem trim1_mem {l : List PG.Pt} {p : PG.Pt} (h : p ∈ trim1 l) : p ∈ l := by
  unfold trim1 at h
  obtain ⟨i, hi, e⟩ := List.mem_map.mp h
  have hi := List.mem_range.mp (List.mem_filter.mp hi).1
  rw [← e, at_get hi]
  exact List.getElem_mem hi
theorem range_at (l : List PG.Pt) : (List.range l.length).map (at_ l) = l := by
  apply List.ext_getElem
  · simp
  · intro i h1 h2
    rw [List.getElem_map, List.getElem_range, at_get h2]
theorem trim1_len (l : List PG.Pt) : (trim1 l).length ≤ l.length := by
  unfold trim1
  rw [List.length_map]
  exact Nat.le_trans (List.length_filter_le ..) (by simp)
theorem trim1_eq {l : List PG.Pt} (h : l.length = (trim1 l).length) : trim1 l = l := by
  unfold trim1 at *
  rw [List.length_map] at h
  have : ((List.range l.length).filter fun i => !decide (turn (prv l i) (at_ l i) (nx l (i + 1)) = 0)) = List.range l.length := by
    rw [List.filter_eq_self]
    rw [← List.length_filter_eq_length_iff, List.length_range]
    exact h.symm
  rw [this]
  exact range_at l
def wcond : CE := (c2 gNe (cA gLen (aCons (cVar 6) aNil)) (cA gLen (aCons (cVar 5) aNil)))
def wbody : CS := (sSeq (sAsg 6 (cVar 5))
 (sAsg 5 (cLc (fun ρ => ((aCons (cVar 6) aNil) ρ).bind enumV) [8, 9] (tPair 8 9) (c2 gNe (cA (pureS m_l_turn) (aCons (c2 gIx (cVar 6) (c2 gSub (cVar 8) (cC (.int 1)))) (aCons (cVar 9) (aCons (cA (pureS m_l_next) (aCons (cVar 6) (aCons (cVar 8) (aCons (cC (.int 1)) aNil)))) aNil)))) (cC (.int 0))) (cVar 9))))
theorem w_body {l : List PG.Pt} (hb : AllB 1000000 l) (hl : l.length < 1000) (a b c d e x7 x8 x9 : Sl) (o : D) :
    wbody [a, b, c, d, e, .val (.list (l.map pt)), .val o, x7, x8, x9] = .nx [a, b, c, d, e, .val (.list ((trim1 l).map pt)), .val (.list (l.map pt)), x7, x8, x9] := by
  have hd : IsPs (.list (l.map pt)) l := .inl rfl
  have h1 : sAsg 6 (cVar 5) [a, b, c, d, e, .val (.list (l.map pt)), .val o, x7, x8, x9] = .nx [a, b, c, d, e, .val (.list (l.map pt)), .val (.list (l.map pt)), x7, x8, x9] := sAsg_ok (by simp [runP_eq, runX_eq, iniS, sSeq_eq, sIf_eq, brB_ok, sq_nx, sq_rt, sq_ite, unr_rt, unr_ite, and_b, or_b, or_t, or_f, and_t, and_f, not_b, bok, vE, fE, Sl.f, Sl.v, sNext, sRet, sAsg, sAsg2, hEv, sPar, hEvA, c1, c2, cA, cVar, cC, cAnd, cOr, cNot, cChain, aNil, aCons, gAdd_int, gSub_int, gNeg_int, gLt_int, gLe_int, gGt_int, gGe_int, gEq_int, gNe_int, min_int, max_int, ix0, ix1, mk_pt, pureS, tName, tPair, sName, sPair, wipeE])
  unfold wbody
  rw [sSeq_eq, h1, sq_nx]
  have h := @cLc_filter Nat (fun (i : Nat) => .tuple [.int (i : Int), pt (at_ l i)]) (fun ρ => ((aCons (cVar 6) aNil) ρ).bind enumV) [8, 9] (tPair 8 9) (c2 gNe (cA (pureS m_l_turn) (aCons (c2 gIx (cVar 6) (c2 gSub (cVar 8) (cC (.int 1)))) (aCons (cVar 9) (aCons (cA (pureS m_l_next) (aCons (cVar 6) (aCons (cVar 8) (aCons (cC (.int 1)) aNil)))) aNil)))) (cC (.int 0))) (cVar 9)
    (vE [a, b, c, d, e, .val (.list (l.map pt)), .val (.list (l.map pt)), x7, x8, x9]) (List.range l.length) (fun i => !decide (turn (prv l i) (at_ l i) (nx l (i + 1)) = 0)) (fun i => pt (at_ l i))
    ((at1 (d := .list (l.map pt)) rfl).trans (enum_ps hd)) (by rw [List.length_range]; exact le_size hl) (by
      intro i hi
      have hi := List.mem_range.mp hi
      have h0 : 0 < l.length := by omega
      have hx := ix_prv hd hi
      have hn := e_next1 hd h0 i
      have ht := e_l_turn (hb.prv hi) (hb.at_ hi) (hb.nx h0 (i + 1))
      refine ⟨_, rfl, ?_, fun _ => rfl⟩
      simp only [runP_eq, runX_eq, iniS, sSeq_eq, sIf_eq, brB_ok, sq_nx, sq_rt, sq_ite, unr_rt, unr_ite, and_b, or_b, or_t, or_f, and_t, and_f, not_b, bok, vE, fE, Sl.f, Sl.v, sNext, sRet, sAsg, sAsg2, hEv, sPar, hEvA, c1, c2, cA, cVar, cC, cAnd, cOr, cNot, cChain, aNil, aCons, gAdd_int, gSub_int, gNeg_int, gLt_int, gLe_int, gGt_int, gGe_int, gEq_int, gNe_int, min_int, max_int, ix0, ix1, mk_pt, pureS, tName, tPair, sName, sPair, wipeE, List.map_cons, List.map_nil, List.set_cons_succ, List.set_cons_zero, List.getElem?_cons_zero, List.getElem?_cons_succ, hx, hn, ht])
  rw [sAsg_ok h]
  unfold trim1
  rw [List.map_map]
  rfl
theorem w_cond {l o : List PG.Pt} {a b c d e x7 x8 x9 : Sl} : wcond (fE [a, b, c, d, e, .val (.list (l.map pt)), .val (.list (o.map pt)), x7, x8, x9]) = .ok (.bool (!decide (o.length = l.length))) := by
  have h1 := len_ps (.inl rfl : IsPs (.list (l.map pt)) l)
  have h2 := len_ps (.inl rfl : IsPs (.list (o.map pt)) o)
  have h3 : decide ((o.length : Int) = (l.length : Int)) = decide (o.length = l.length) := decide_eq_decide.mpr (by omega)
  unfold wcond
  simp only [runP_eq, runX_eq, iniS, sSeq_eq, sIf_eq, brB_ok, sq_nx, sq_rt, sq_ite, unr_rt, unr_ite, and_b, or_b, or_t, or_f, and_t, and_f, not_b, bok, vE, fE, Sl.f, Sl.v, sNext, sRet, sAsg, sAsg2, hEv, sPar, hEvA, c1, c2, cA, cVar, cC, cAnd, cOr, cNot, cChain, aNil, aCons, gAdd_int, gSub_int, gNeg_int, gLt_int, gLe_int, gGt_int, gGe_int, gEq_int, gNe_int, min_int, max_int, ix0, ix1, mk_pt, pureS, tName, tPair, sName, sPair, wipeE, List.map_cons, List.map_nil, List.getElem?_cons_zero, List.getElem?_cons_succ, h1, h2, h3]
theorem w_loop : ∀ (m : Nat) (l o : List PG.Pt) (f N : Nat) (a b c d e x7 x8 x9 : Sl), l.length ≤ m → AllB 1000000 l → l.length < 1000 → o.length ≠ l.length → m + 2 ≤ f → m + 1 ≤ N →
    ∃ x6, whileL wcond wbody f [a, b, c, d, e, .val (.list (l.map pt)), .val (.list (o.map pt)), x7, x8, x9] = .nx [a, b, c, d, e, .val (.list ((trim N l).map pt)), x6, x7, x8, x9]
  | m, l, o, 0, _, _, _, _, _, _, _, _, _, _, _, _, _, h, _ => by omega
  | m, l, o, 1, _, _, _, _, _, _, _, _, _, _, _, _, _, h, _ => by omega
  | m, l, o, _ + 2, 0, _, _, _, _, _, _, _, _, _, _, _, _, _, h => by omega
  | m, l, o, f + 2, N + 1, a, b, c, d, e, x7, x8, x9, hm, hb, hl, ho, hf, hN => by
    have hne : decide (o.length = l.length) = false := decide_eq_false ho
    rw [whileL, w_cond, hne]
    try dsimp only [Bool.not_false]
    rw [w_body hb hl]
    try dsimp only
    unfold trim
    by_cases h : l.length = (trim1 l).length
    · rw [if_pos h, whileL, w_cond, decide_eq_true h]
      try dsimp only [Bool.not_true]
      rw [trim1_eq h]
      exact ⟨_, rfl⟩
    · rw [if_neg h]
      have := trim1_len l
      cases m with
      | zero => omega
      | succ m =>
        exact w_loop m (trim1 l) l (f + 1) N a b c d e x7 x8 x9 (by omega) (fun p hp => hb p (trim1_mem hp)) (by omega) h (by omega) (by omega)
theorem cM1 (x : Int) : CMulB x 1 = true := mulB' (by decide) (by decide)
theorem Bd_of {B : Int} {x y : Int} (h1 : -B ≤ x) (h2 : x ≤ B) (h3 : -B ≤ y) (h4 : y ≤ B) : Bd B (x, y) := ⟨h1, h2, h3, h4⟩
theorem saw0_bd (n w : Int) (hw : 0 < w) (hw2 : w ≤ 1000) : AllB 2000 (saw0 n w) ∧ (saw0 n w).length ≤ 12 ∧ 1 ≤ (saw0 n w).length := by
  refine ⟨?_, ?_, ?_⟩
  · intro p hp
    unfold saw0 at hp
    simp only [List.mem_append, List.mem_map, List.mem_range, List.mem_singleton] at hp
    rcases hp with ((rfl | ⟨k, hk, rfl⟩) | rfl) | ⟨k, hk, rfl⟩
    · exact Bd_of (by decide) (by decide) (by decide) (by decide)
    · have h1 := Int.emod_nonneg (drawn n k) (show w ≠ 0 by omega)
      have h2 := Int.emod_lt_of_pos (drawn n k) hw
      exact Bd_of (by omega) (by omega) (by omega) (by omega)
    · have : max2 (1 + n % 5) (1 + n / 5 % 5) ≤ 5 ∧ 1 ≤ max2 (1 + n % 5) (1 + n / 5 % 5) := by unfold max2; split <;> omega
      exact Bd_of (by omega) (by omega) (by decide) (by decide)
    · have : max2 (1 + n % 5) (1 + n / 5 % 5) ≤ 5 ∧ 1 ≤ max2 (1 + n % 5) (1 + n / 5 % 5) := by unfold max2; split <;> omega
      have h1 := Int.emod_nonneg (drawn n (9 + k)) (show w ≠ 0 by omega)
      have h2 := Int.emod_lt_of_pos (drawn n (9 + k)) hw
      exact Bd_of (by omega) (by omega) (by omega) (by omega)
  · unfold saw0
    simp only [List.length_append, List.length_map, List.length_range, List.length_singleton]
    omega
  · unfold saw0
    simp only [List.length_append, List.length_map, List.length_range, List.length_singleton]
    omega
theorem e_saw (n w : Int) (hw : 0 < w) (hw2 : w ≤ 1000) : m_l_saw [.int n, .int w] = .ok (.list ((saw n w).map pt)) := by
  obtain ⟨lo, hlo⟩ : ∃ lo : Nat, 1 + n % 5 = (lo : Int) := ⟨(1 + n % 5).toNat, by omega⟩
  obtain ⟨hi, hhi⟩ : ∃ hi : Nat, 1 + n / 5 % 5 = (hi : Int) := ⟨(1 + n / 5 % 5).toNat, by omega⟩
  have hl5 : lo ≤ 5 := by omega
  have hh5 : hi ≤ 5 := by omega
  have hs0 := saw0_bd n w hw hw2
  have hdef : saw0 n w = [(0, 0)] ++ ((List.range lo).map fun (k : Nat) => (1 + (k : Int), -1 - drawn n (k : Int) % w)) ++ [(1 + max2 lo hi, 0)] ++ ((List.range hi).map fun (k : Nat) => (1 + max2 lo hi - 1 - (k : Int), 1 + drawn n (9 + (k : Int)) % w)) := by
    unfold saw0
    dsimp only
    rw [hlo, hhi, Int.toNat_natCast, Int.toNat_natCast]
  have d5 : gMod (.int n) (.int 5) = .ok (.int (n % 5)) := gMod_int (by decide)
  have d6 : gMod (.int (n / 5)) (.int 5) = .ok (.int (n / 5 % 5)) := gMod_int (by decide)
  have d7 : gDiv (.int n) (.int 5) = .ok (.int (n / 5)) := gDiv_int (by decide)
  unfold m_l_saw b_l_saw
  rw [runP_eq, sSeq_eq, show sAsg 2 (c2 gAdd (cC (.int 1)) (c2 gMod (cVar 0) (cC (.int 5)))) (iniS 10 [.int n, .int w]) = .nx [.val (.int n), .val (.int w), .val (.int (lo : Int)), .non, .non, .non, .non, .non, .non, .non] from sAsg_ok (by simp [runP_eq, runX_eq, iniS, sSeq_eq, sIf_eq, brB_ok, sq_nx, sq_rt, sq_ite, unr_rt, unr_ite, and_b, or_b, or_t, or_f, and_t, and_f, not_b, bok, vE, fE, Sl.f, Sl.v, sNext, sRet, sAsg, sAsg2, hEv, sPar, hEvA, c1, c2, cA, cVar, cC, cAnd, cOr, cNot, cChain, aNil, aCons, gAdd_int, gSub_int, gNeg_int, gLt_int, gLe_int, gGt_int, gGe_int, gEq_int, gNe_int, min_int, max_int, ix0, ix1, mk_pt, pureS, tName, tPair, sName, sPair, wipeE, d5, hlo]), sq_nx,
    sSeq_eq, show sAsg 3 (c2 gAdd (cC (.int 1)) (c2 gMod (c2 gDiv (cVar 0) (cC (.int 5))) (cC (.int 5)))) [.val (.int n), .val (.int w), .val (.int (lo : Int)), .non, .non, .non, .non, .non, .non, .non] = .nx [.val (.int n), .val (.int w), .val (.int (lo : Int)), .val (.int (hi : Int)), .non, .non, .non, .non, .non, .non] from sAsg_ok (by simp [runP_eq, runX_eq, iniS, sSeq_eq, sIf_eq, brB_ok, sq_nx, sq_rt, sq_ite, unr_rt, unr_ite, and_b, or_b, or_t, or_f, and_t, and_f, not_b, bok, vE, fE, Sl.f, Sl.v, sNext, sRet, sAsg, sAsg2, hEv, sPar, hEvA, c1, c2, cA, cVar, cC, cAnd, cOr, cNot, cChain, aNil, aCons, gAdd_int, gSub_int, gNeg_int, gLt_int, gLe_int, gGt_int, gGe_int, gEq_int, gNe_int, min_int, max_int, ix0, ix1, mk_pt, pureS, tName, tPair, sName, sPair, wipeE, d6, d7, hhi]), sq_nx,
    sSeq_eq, show sAsg 4 (c2 gAdd (cC (.int 1)) (cA gMax (aCons (cVar 2) (aCons (cVar 3) aNil)))) [.val (.int n), .val (.int w), .val (.int (lo : Int)), .val (.int (hi : Int)), .non, .non, .non, .non, .non, .non] = .nx [.val (.int n), .val (.int w), .val (.int (lo : Int)), .val (.int (hi : Int)), .val (.int (1 + max2 lo hi)), .non, .non, .non, .non, .non] from sAsg_ok (by simp [runP_eq, runX_eq, iniS, sSeq_eq, sIf_eq, brB_ok, sq_nx, sq_rt, sq_ite, unr_rt, unr_ite, and_b, or_b, or_t, or_f, and_t, and_f, not_b, bok, vE, fE, Sl.f, Sl.v, sNext, sRet, sAsg, sAsg2, hEv, sPar, hEvA, c1, c2, cA, cVar, cC, cAnd, cOr, cNot, cChain, aNil, aCons, gAdd_int, gSub_int, gNeg_int, gLt_int, gLe_int, gGt_int, gGe_int, gEq_int, gNe_int, min_int, max_int, ix0, ix1, mk_pt, pureS, tName, tPair, sName, sPair, wipeE]), sq_nx]
  have hc1 := @cLc_map Nat (fun (k : Nat) => (.int (k : Int) : D)) (fun ρ => ((aCons (cVar 2) aNil) ρ).bind rng1) [7] (tName 7) (cA mkTup (aCons (c2 gAdd (cC (.int 1)) (cVar 7)) (aCons (c2 gSub (c1 gNeg (cC (.int 1))) (c2 gMod (cA (pureS m_l_drawn) (aCons (cVar 0) (aCons (cVar 7) aNil))) (cVar 1))) aNil)))
    (vE [.val (.int n), .val (.int w), .val (.int (lo : Int)), .val (.int (hi : Int)), .val (.int (1 + max2 lo hi)), .non, .non, .non, .non, .non]) (List.range lo) (fun k => pt (1 + (k : Int), -1 - drawn n (k : Int) % w))
    ((at1 (d := .int (lo : Int)) rfl).trans (rng_one (Nat.lt_of_le_of_lt hl5 (by decide)))) (by rw [List.length_range]; exact le_size (by omega)) (by
      intro k hk
      refine ⟨_, rfl, ?_⟩
      simp [runP_eq, runX_eq, iniS, sSeq_eq, sIf_eq, brB_ok, sq_nx, sq_rt, sq_ite, unr_rt, unr_ite, and_b, or_b, or_t, or_f, and_t, and_f, not_b, bok, vE, fE, Sl.f, Sl.v, sNext, sRet, sAsg, sAsg2, hEv, sPar, hEvA, c1, c2, cA, cVar, cC, cAnd, cOr, cNot, cChain, aNil, aCons, gAdd_int, gSub_int, gNeg_int, gLt_int, gLe_int, gGt_int, gGe_int, gEq_int, gNe_int, min_int, max_int, ix0, ix1, mk_pt, pureS, tName, tPair, sName, sPair, wipeE, e_drawn, gMod_int hw])
  have hsz1 : ∀ (A B C : List PG.Pt), A.length + B.length < 1000 → A.length + B.length + C.length < 1000 → gAdd (.list (A.map pt)) (.list (B.map pt)) = .ok (.list ((A ++ B).map pt)) ∧ gAdd (.list ((A ++ B).map pt)) (.list (C.map pt)) = .ok (.list ((A ++ B ++ C).map pt)) := fun A B C h1 h2 => ⟨add_ll A B h1, add_ll (A ++ B) C (by rw [List.length_append]; exact h2)⟩
  have hs := hsz1 [(0, 0)] ((List.range lo).map fun (k : Nat) => (1 + (k : Int), -1 - drawn n (k : Int) % w)) [(1 + max2 lo hi, 0)] (by simp; omega) (by simp; omega)
  rw [sSeq_eq]
  generalize hP1 : ([(0, 0)] ++ ((List.range lo).map fun (k : Nat) => (1 + (k : Int), -1 - drawn n (k : Int) % w)) ++ [(1 + max2 lo hi, 0)] : List PG.Pt) = P1 at *
  have hstep : ∀ (c : CE), c (vE [.val (.int n), .val (.int w), .val (.int (lo : Int)), .val (.int (hi : Int)), .val (.int (1 + max2 lo hi)), .non, .non, .non, .non, .non]) = .ok (.list ((List.range lo).map fun (k : Nat) => pt (1 + (k : Int), -1 - drawn n (k : Int) % w))) →
      sAsg 5 (c2 gAdd (c2 gAdd (cA mkLst (aCons (cA mkTup (aCons (cC (.int 0)) (aCons (cC (.int 0)) aNil))) aNil)) c) (cA mkLst (aCons (cA mkTup (aCons (cVar 4) (aCons (cC (.int 0)) aNil))) aNil))) [.val (.int n), .val (.int w), .val (.int (lo : Int)), .val (.int (hi : Int)), .val (.int (1 + max2 lo hi)), .non, .non, .non, .non, .non] =
      .nx [.val (.int n), .val (.int w), .val (.int (lo : Int)), .val (.int (hi : Int)), .val (.int (1 + max2 lo hi)), .val (.list (P1.map pt)), .non, .non, .non, .non] := fun c hc => sAsg_ok (by
        have e1 := hs.1
        have e2 := hs.2
        rw [List.map_map] at e1
        unfold c2
        simp only [vE, List.map_cons, List.map_nil, Sl.v] at hc ⊢
        rw [hc]
        simp only [runP_eq, runX_eq, iniS, sSeq_eq, sIf_eq, brB_ok, sq_nx, sq_rt, sq_ite, unr_rt, unr_ite, and_b, or_b, or_t, or_f, and_t, and_f, not_b, bok, vE, fE, Sl.f, Sl.v, sNext, sRet, sAsg, sAsg2, hEv, sPar, hEvA, c1, c2, cA, cVar, cC, cAnd, cOr, cNot, cChain, aNil, aCons, gAdd_int, gSub_int, gNeg_int, gLt_int, gLe_int, gGt_int, gGe_int, gEq_int, gNe_int, min_int, max_int, ix0, ix1, mk_pt, pureS, tName, tPair, sName, sPair, wipeE, size1, List.getElem?_cons_zero, List.getElem?_cons_succ]
        rw [show (gAdd (.list [pt (0, 0)]) (.list ((List.range lo).map fun (k : Nat) => pt (1 + (k : Int), -1 - drawn n (k : Int) % w)))) = _ from e1, bok, show (gAdd _ (.list [pt (1 + max2 lo hi, 0)])) = _ from e2])
  rw [hstep _ hc1, sq_nx, sSeq_eq]
  have hc2 := @cLc_map Nat (fun (k : Nat) => (.int (k : Int) : D)) (fun ρ => ((aCons (cVar 3) aNil) ρ).bind rng1) [7] (tName 7) (cA mkTup (aCons (c2 gSub (c2 gSub (cVar 4) (cC (.int 1))) (cVar 7)) (aCons (c2 gAdd (cC (.int 1)) (c2 gMod (cA (pureS m_l_drawn) (aCons (cVar 0) (aCons (c2 gAdd (cC (.int 9)) (cVar 7)) aNil))) (cVar 1))) aNil)))
    (vE [.val (.int n), .val (.int w), .val (.int (lo : Int)), .val (.int (hi : Int)), .val (.int (1 + max2 lo hi)), .val (.list (P1.map pt)), .non, .non, .non, .non]) (List.range hi) (fun k => pt (1 + max2 lo hi - 1 - (k : Int), 1 + drawn n (9 + (k : Int)) % w))
    ((at1 (d := .int (hi : Int)) rfl).trans (rng_one (Nat.lt_of_le_of_lt hh5 (by decide)))) (by rw [List.length_range]; exact le_size (by omega)) (by
      intro k hk
      refine ⟨_, rfl, ?_⟩
      simp [runP_eq, runX_eq, iniS, sSeq_eq, sIf_eq, brB_ok, sq_nx, sq_rt, sq_ite, unr_rt, unr_ite, and_b, or_b, or_t, or_f, and_t, and_f, not_b, bok, vE, fE, Sl.f, Sl.v, sNext, sRet, sAsg, sAsg2, hEv, sPar, hEvA, c1, c2, cA, cVar, cC, cAnd, cOr, cNot, cChain, aNil, aCons, gAdd_int, gSub_int, gNeg_int, gLt_int, gLe_int, gGt_int, gGe_int, gEq_int, gNe_int, min_int, max_int, ix0, ix1, mk_pt, pureS, tName, tPair, sName, sPair, wipeE, e_drawn, gMod_int hw])
  have hs2 := add_ll P1 ((List.range hi).map fun (k : Nat) => (1 + max2 lo hi - 1 - (k : Int), 1 + drawn n (9 + (k : Int)) % w)) (by rw [← hP1]; simp; omega)
  rw [← hdef, List.map_map] at hs2
  rw [sAsg_ok (i := 5) (d := .list ((saw0 n w).map pt)) ((c2_ok (x := .list (P1.map pt)) rfl hc2).trans hs2), sq_nx, sSeq_eq]
  show unr (sq (sAsg 6 (cA mkLst aNil) [.val (.int n), .val (.int w), .val (.int (lo : Int)), .val (.int (hi : Int)), .val (.int (1 + max2 lo hi)), .val (.list ((saw0 n w).map pt)), .non, .non, .non, .non]) _) = _
  rw [show sAsg 6 (cA mkLst aNil) [.val (.int n), .val (.int w), .val (.int (lo : Int)), .val (.int (hi : Int)), .val (.int (1 + max2 lo hi)), .val (.list ((saw0 n w).map pt)), .non, .non, .non, .non] = .nx [.val (.int n), .val (.int w), .val (.int (lo : Int)), .val (.int (hi : Int)), .val (.int (1 + max2 lo hi)), .val (.list ((saw0 n w).map pt)), .val (.list (([] : List PG.Pt).map pt)), .non, .non, .non] from sAsg_ok (by simp [runP_eq, runX_eq, iniS, sSeq_eq, sIf_eq, brB_ok, sq_nx, sq_rt, sq_ite, unr_rt, unr_ite, and_b, or_b, or_t, or_f, and_t, and_f, not_b, bok, vE, fE, Sl.f, Sl.v, sNext, sRet, sAsg, sAsg2, hEv, sPar, hEvA, c1, c2, cA, cVar, cC, cAnd, cOr, cNot, cChain, aNil, aCons, gAdd_int, gSub_int, gNeg_int, gLt_int, gLe_int, gGt_int, gGe_int, gEq_int, gNe_int, min_int, max_int, ix0, ix1, mk_pt, pureS, tName, tPair, sName, sPair, wipeE, size0]), sq_nx, sSeq_eq]
  obtain ⟨x6, hw6⟩ := w_loop 12 (saw0 n w) [] FUEL 20 (.val (.int n)) (.val (.int w)) (.val (.int (lo : Int))) (.val (.int (hi : Int))) (.val (.int (1 + max2 lo hi))) .non .non .non hs0.2.1 (hs0.1.mono (by decide)) (by omega) (by rw [List.length_nil]; omega) (by unfold FUEL; decide) (by decide)
  unfold wcond wbody at hw6
  rw [hw6, sq_nx]
  rfl
end PL

set_option Elab.async false
set_option linter.all false
set_option maxRecDepth 100000
set_option maxHeartbeats 1000000
namespace PL
open PySem L2 PG
theorem forL_ra {Y S : Type} (e : Y → D) (t : TgtS) (body : CS) (I : S → SE → Prop) (bad : Y → Bool) (f : S → Y → S) (v : D) : ∀ (xs : List Y) (s : S) (ρ : SE), I s ρ →
    (∀ s, ∀ x ∈ xs, ∀ σ, I s σ → ∃ σ1, t (e x) σ = some σ1 ∧ (bad x = true → body σ1 = .rt v) ∧ (bad x = false → ∃ σ', body σ1 = .nx σ' ∧ I (f s x) σ')) →
    (xs.any bad = true → forL t body (xs.map e) ρ = .rt v) ∧ (xs.any bad = false → ∃ σ', forL t body (xs.map e) ρ = .nx σ' ∧ I (xs.foldl f s) σ')
  | [], s, ρ, hI, _ => ⟨fun h => (by cases h), fun _ => ⟨ρ, rfl, hI⟩⟩
  | x :: xs, s, ρ, hI, st => by
    obtain ⟨σ1, h1, h2, h3⟩ := st s x (List.mem_cons_self ..) ρ hI
    rw [List.map_cons, List.any_cons, List.foldl_cons]
    unfold forL
    rw [h1]
    dsimp only
    cases hb : bad x with
    | true =>
      rw [h2 hb]
      exact ⟨fun _ => rfl, fun h => by cases h⟩
    | false =>
      obtain ⟨σ', h4, h5⟩ := h3 hb
      rw [h4]
      dsimp only
      rw [Bool.false_or]
      exact forL_ra e t body I bad f v xs (f s x) σ' h5 fun s y hy => st s y (List.mem_cons_of_mem _ hy)
theorem base_ne (n w : Int) (hw : 0 < w) : base n w ≠ [] := by
  unfold base
  dsimp only
  split
  · exact saw_ne _ _ hw
  · intro h
    have := congrArg List.length h
    unfold spots at this
    simp at this
    omega
theorem saw_bd (n w : Int) (hw : 0 < w) (hw2 : w ≤ 1000) : AllB 2000 (saw n w) ∧ (saw n w).length ≤ 12 := by
  have h := saw0_bd n w hw hw2
  have key : ∀ (k : Nat) (l : List PG.Pt), AllB 2000 l → l.length ≤ 12 → AllB 2000 (trim k l) ∧ (trim k l).length ≤ 12 := by
    intro k
    induction k with
    | zero => exact fun l h1 h2 => ⟨h1, h2⟩
    | succ k ih =>
      intro l h1 h2
      unfold trim
      split
      · exact ⟨h1, h2⟩
      · exact ih _ (fun p hp => h1 p (trim1_mem hp)) (Nat.le_trans (trim1_len l) h2)
  exact key 20 _ h.1 h.2.1
theorem spots_bd (n w : Int) (m : Nat) (hw : 0 < w) (hw2 : w ≤ 1000) : AllB 2000 (spots n w m) ∧ (spots n w m).length = m := by
  refine ⟨fun p hp => ?_, by unfold spots; simp⟩
  unfold spots at hp
  obtain ⟨k, hk, rfl⟩ := List.mem_map.mp hp
  have h1 := Int.emod_nonneg (drawn n (2 * k)) (show w ≠ 0 by omega)
  have h2 := Int.emod_lt_of_pos (drawn n (2 * k)) hw
  have h3 := Int.emod_nonneg (drawn n (2 * k + 1)) (show w ≠ 0 by omega)
  have h4 := Int.emod_lt_of_pos (drawn n (2 * k + 1)) hw
  exact Bd_of (by omega) (by omega) (by omega) (by omega)
theorem base_bd (n w : Int) (hw : 0 < w) (hw2 : w ≤ 1000) : AllB 2000 (base n w) ∧ (base n w).length ≤ 12 := by
  unfold base
  dsimp only
  split
  · exact saw_bd _ _ hw hw2
  · have h := spots_bd (n / 2) w (3 + n / 2 % 5).toNat hw hw2
    exact ⟨h.1, by rw [h.2]; omega⟩
theorem by_bd (n w : Int) (hw : 0 < w) (hw2 : w ≤ 1000) : 0 ≤ n / 512 % 3 * w / 4 ∧ n / 512 % 3 * w / 4 ≤ 1000 := by
  have : n / 512 % 3 = 0 ∨ n / 512 % 3 = 1 ∨ n / 512 % 3 = 2 := by omega
  rcases this with h | h | h <;> rw [h] <;> omega
theorem inOrder_mem {l : List PG.Pt} {p : PG.Pt} : p ∈ inOrder l ↔ p ∈ l := by
  unfold inOrder rot
  rw [List.mem_append, ← orient_mem (l := l)]
  generalize (orient l).idxOf _ = k
  rw [Or.comm, ← List.mem_append, List.take_append_drop]
theorem inOrder_len (l : List PG.Pt) : (inOrder l).length = l.length := by
  unfold inOrder rot
  rw [List.length_append, ← orient_len l]
  generalize (orient l).idxOf _ = k
  rw [Nat.add_comm, ← List.length_append, List.take_append_drop]
theorem plot_bd (n w : Int) (hw : 0 < w) (hw2 : w ≤ 1000) : AllB 3000 (plot n w) ∧ (plot n w).length ≤ 12 ∧ 0 < (plot n w).length := by
  have h := base_bd n w hw hw2
  have hb := by_bd n w hw hw2
  have hne := base_ne n w hw
  refine ⟨fun p hp => ?_, ?_, ?_⟩
  · unfold plot at hp
    obtain ⟨q, hq, rfl⟩ := List.mem_map.mp (inOrder_mem.mp hp)
    have := h.1 q hq
    unfold Bd at this
    exact Bd_of (by omega) (by omega) (by omega) (by omega)
  · unfold plot
    rw [inOrder_len, List.length_map]; exact h.2
  · unfold plot
    rw [inOrder_len, List.length_map]; exact List.length_pos_iff.mpr hne
theorem c2x (a : Int) (h : 0 ≤ a ∧ a < 3) (w : Int) : CMulB a w = true := mulB (by omega) (by omega)
theorem e_plot (n w : Int) (hw : 0 < w) (hw2 : w ≤ 1000) : m_l_plot [.int n, .int w] = .ok (.tuple ((plot n w).map pt)) := by
  obtain ⟨m, hm⟩ : ∃ m : Nat, 3 + n / 2 % 5 = (m : Int) := ⟨(3 + n / 2 % 5).toNat, by omega⟩
  have hm7 : m ≤ 7 := by omega
  have hsp := e_spots (n / 2) w m hw (by omega)
  have hsb := spots_bd (n / 2) w m hw hw2
  have hgd := e_good (.inl rfl : IsPs (.list ((spots (n / 2) w m).map pt)) _) (hsb.1.mono (by decide)) (by rw [hsb.2]; omega)
  have hsw := e_saw (n / 2) w hw hw2
  have dv : gDiv (.int n) (.int 2) = .ok (.int (n / 2)) := gDiv_int (by decide)
  have m5 : gMod (.int (n / 2)) (.int 5) = .ok (.int (n / 2 % 5)) := gMod_int (by decide)
  have m2 : gMod (.int n) (.int 2) = .ok (.int (n % 2)) := gMod_int (by decide)
  have dv2 : gDiv (.int n) (.int 512) = .ok (.int (n / 512)) := gDiv_int (by decide)
  have m3 : gMod (.int (n / 512)) (.int 3) = .ok (.int (n / 512 % 3)) := gMod_int (by decide)
  have mw : gMul (.int (n / 512 % 3)) (.int w) = .ok (.int (n / 512 % 3 * w)) := gMul_int (c2x _ (by omega) _)
  have d4 : gDiv (.int (n / 512 % 3 * w)) (.int 4) = .ok (.int (n / 512 % 3 * w / 4)) := gDiv_int (by decide)
  have hbase : base n w = if decide (n % 2 = 1) = true ∨ (!good (spots (n / 2) w m)) = true then saw (n / 2) w else spots (n / 2) w m := by
    unfold base
    dsimp only
    rw [hm, Int.toNat_natCast]
    by_cases h : n % 2 = 1 <;> cases good (spots (n / 2) w m) <;> simp [h]
  have hbb := base_bd n w hw hw2
  have hne := base_ne n w hw
  have hyb := by_bd n w hw hw2
  unfold m_l_plot b_l_plot
  rw [runP_eq, sSeq_eq, show sAsg 2 (cA (pureS m_l_spots) (aCons (c2 gDiv (cVar 0) (cC (.int 2))) (aCons (cVar 1) (aCons (c2 gAdd (cC (.int 3)) (c2 gMod (c2 gDiv (cVar 0) (cC (.int 2))) (cC (.int 5)))) aNil)))) (iniS 6 [.int n, .int w]) = .nx [.val (.int n), .val (.int w), .val (.list ((spots (n / 2) w m).map pt)), .non, .non, .non] from sAsg_ok (call3 (c2_is rfl rfl dv) rfl (c2_is rfl (c2_is (c2_is rfl rfl dv) rfl m5) (hm ▸ gAdd_int 3 (n / 2 % 5))) hsp), sq_nx, sSeq_eq]
  have hif : sIf (cOr (c2 gEq (c2 gMod (cVar 0) (cC (.int 2))) (cC (.int 1))) (cNot (cA (pureS m_l_is_good) (aCons (cVar 2) aNil)))) (sAsg 2 (cA (pureS m_l_saw) (aCons (c2 gDiv (cVar 0) (cC (.int 2))) (aCons (cVar 1) aNil)))) sNext [.val (.int n), .val (.int w), .val (.list ((spots (n / 2) w m).map pt)), .non, .non, .non] = .nx [.val (.int n), .val (.int w), .val (.list ((base n w).map pt)), .non, .non, .non] := by
    rw [hbase]
    cases h1 : decide (n % 2 = 1) <;> cases h2 : good (spots (n / 2) w m) <;> rw [h2] at hgd <;> simp only [runP_eq, runX_eq, iniS, sSeq_eq, sIf_eq, brB_ok, sq_nx, sq_rt, sq_ite, unr_rt, unr_ite, and_b, or_b, or_t, or_f, and_t, and_f, not_b, bok, vE, fE, Sl.f, Sl.v, sNext, sRet, sAsg, sAsg2, hEv, sPar, hEvA, c1, c2, cA, cVar, cC, cAnd, cOr, cNot, cChain, aNil, aCons, gAdd_int, gSub_int, gNeg_int, gLt_int, gLe_int, gGt_int, gGe_int, gEq_int, gNe_int, min_int, max_int, ix0, ix1, mk_pt, pureS, tName, tPair, sName, sPair, wipeE, List.map_cons, List.map_nil, List.getElem?_cons_zero, List.getElem?_cons_succ, List.set_cons_succ, List.set_cons_zero, m2, hgd, hsw, dv, h1, Bool.not_true, Bool.not_false, Bool.or_true, Bool.or_false, if_true, if_false, Bool.false_eq_true, or_self, or_true, or_false, true_or, false_or]
  rw [hif, sq_nx, sSeq_eq, show sAsg 3 (c2 gDiv (c2 gMul (c2 gMod (c2 gDiv (cVar 0) (cC (.int 512))) (cC (.int 3))) (cVar 1)) (cC (.int 4))) [.val (.int n), .val (.int w), .val (.list ((base n w).map pt)), .non, .non, .non] = .nx [.val (.int n), .val (.int w), .val (.list ((base n w).map pt)), .val (.int (n / 512 % 3 * w / 4)), .non, .non] from sAsg_ok (by
    simp only [runP_eq, runX_eq, iniS, sSeq_eq, sIf_eq, brB_ok, sq_nx, sq_rt, sq_ite, unr_rt, unr_ite, and_b, or_b, or_t, or_f, and_t, and_f, not_b, bok, vE, fE, Sl.f, Sl.v, sNext, sRet, sAsg, sAsg2, hEv, sPar, hEvA, c1, c2, cA, cVar, cC, cAnd, cOr, cNot, cChain, aNil, aCons, gAdd_int, gSub_int, gNeg_int, gLt_int, gLe_int, gGt_int, gGe_int, gEq_int, gNe_int, min_int, max_int, ix0, ix1, mk_pt, pureS, tName, tPair, sName, sPair, wipeE, List.map_cons, List.map_nil, List.getElem?_cons_zero, List.getElem?_cons_succ, dv2, m3, mw, d4]), sq_nx]
  generalize hy : n / 512 % 3 * w / 4 = y at *
  have hc := @cLc_map PG.Pt pt (cSrc (cVar 2)) [4, 5] (tPair 4 5) (cA mkTup (aCons (c2 gSub (cVar 4) (cVar 3)) (aCons (cVar 5) aNil))) (fE [.val (.int n), .val (.int w), .val (.list ((base n w).map pt)), .val (.int y), .non, .non]) (base n w) (fun p => pt (p.1 - y, p.2))
    (src1 (d := .list ((base n w).map pt)) rfl rfl) (le_size (by omega)) (by
      intro p hp
      refine ⟨_, rfl, ?_⟩
      simp [runP_eq, runX_eq, iniS, sSeq_eq, sIf_eq, brB_ok, sq_nx, sq_rt, sq_ite, unr_rt, unr_ite, and_b, or_b, or_t, or_f, and_t, and_f, not_b, bok, vE, fE, Sl.f, Sl.v, sNext, sRet, sAsg, sAsg2, hEv, sPar, hEvA, c1, c2, cA, cVar, cC, cAnd, cOr, cNot, cChain, aNil, aCons, gAdd_int, gSub_int, gNeg_int, gLt_int, gLe_int, gGt_int, gGe_int, gEq_int, gNe_int, min_int, max_int, ix0, ix1, mk_pt, pureS, tName, tPair, sName, sPair, wipeE])
  have hio := e_in_order (.inl rfl : IsPs (.list (((base n w).map fun p => (p.1 - y, p.2)).map pt)) _) (fun p hp => by
    obtain ⟨q, hq, rfl⟩ := List.mem_map.mp hp
    have := hbb.1 q hq
    unfold Bd at this
    exact Bd_of (by omega) (by omega) (by omega) (by omega)) (by simpa using hne) (by rw [List.length_map]; omega)
  rw [List.map_map] at hio
  refine congrArg unr (sRet_ok (d := .tuple ((plot n w).map pt)) ?_) |>.trans rfl
  unfold plot
  rw [hy]
  exact (at1 hc).trans (pure_ok hio)
/-! ### which side -/
def sideX (a b s : PG.Pt) : Bool := (decide (a.2 ≤ s.2) != decide (b.2 ≤ s.2)) && (decide (0 < turn a b s) == decide (a.2 < b.2))
def lowP (a b : PG.Pt) : PG.Pt := if b.2 < a.2 then b else a
def highP (a b : PG.Pt) : PG.Pt := if b.2 > a.2 then b else a
def sideP (a b s : PG.Pt) : Bool := (decide ((lowP a b).2 ≤ s.2) && decide (s.2 < (highP a b).2)) && decide (0 < turn (lowP a b) (highP a b) s)
theorem on_of {a b s : PG.Pt} (h0 : turn a b s = 0) (h1 : a.2 < b.2) (h2 : a.2 ≤ s.2) (h3 : s.2 < b.2) : onB a b s = true := by
  have key : (b.2 - a.2) * (s.1 - a.1) = (b.1 - a.1) * (s.2 - a.2) := by unfold turn at h0; grind
  unfold onB min2 max2
  simp only [h0, decide_true, Bool.true_and, Bool.and_eq_true, decide_eq_true_eq]
  have hd : 0 < b.2 - a.2 := by omega
  have he : 0 ≤ s.2 - a.2 := by omega
  have he2 : s.2 - a.2 ≤ b.2 - a.2 := by omega
  refine ⟨?_, by rw [if_neg (by omega), if_pos (by omega)]; omega⟩
  by_cases hx : a.1 ≤ b.1
  · have q1 : 0 ≤ (b.1 - a.1) * (s.2 - a.2) := Int.mul_nonneg (by omega) he
    have q2 : (b.1 - a.1) * (s.2 - a.2) ≤ (b.1 - a.1) * (b.2 - a.2) := Int.mul_le_mul_of_nonneg_left he2 (by omega)
    have r1 : 0 ≤ s.1 - a.1 := by
      by_cases h : 0 ≤ s.1 - a.1
      · exact h
      · have := Int.mul_neg_of_pos_of_neg hd (show s.1 - a.1 < 0 by omega); omega
    have r2 : s.1 - a.1 ≤ b.1 - a.1 := by
      refine Int.le_of_mul_le_mul_left (a := b.2 - a.2) ?_ hd
      rw [key, Int.mul_comm (b.2 - a.2)]; exact q2
    split <;> split <;> omega
  · have q1 : (b.1 - a.1) * (s.2 - a.2) ≤ 0 := Int.mul_nonpos_of_nonpos_of_nonneg (by omega) he
    have q2 : (b.1 - a.1) * (b.2 - a.2) ≤ (b.1 - a.1) * (s.2 - a.2) := Int.mul_le_mul_of_nonpos_left (by omega) he2
    have r1 : s.1 - a.1 ≤ 0 := by
      by_cases h : s.1 - a.1 ≤ 0
      · exact h
      · have := Int.mul_pos hd (show 0 < s.1 - a.1 by omega); omega
    have r2 : b.1 - a.1 ≤ s.1 - a.1 := by
      refine Int.le_of_mul_le_mul_left (a := b.2 - a.2) ?_ hd
      rw [key, Int.mul_comm (b.2 - a.2)]; exact q2
    split <;> split <;> omega
theorem onB_symm (a b s : PG.Pt) : onB a b s = onB b a s := by
  have h : turn b a s = - turn a b s := by unfold turn; grind
  have h2 : decide (turn b a s = 0) = decide (turn a b s = 0) := decide_eq_decide.mpr (by omega)
  have e1 : ∀ i j : Int, min2 i j = min2 j i := fun i j => by unfold min2; split <;> split <;> omega
  have e2 : ∀ i j : Int, max2 i j = max2 j i := fun i j => by unfold max2; split <;> split <;> omega
  unfold onB
  rw [h2, e1 b.1, e1 b.2, e2 b.1, e2 b.2]
theorem side_eq {a b s : PG.Pt} (h : onB a b s = false) : sideP a b s = sideX a b s := by
  have hsym : turn b a s = - turn a b s := by unfold turn; grind
  unfold sideP sideX lowP highP
  by_cases h1 : a.2 < b.2
  · rw [if_neg (by omega), if_pos h1]
    by_cases h2 : a.2 ≤ s.2 <;> by_cases h3 : b.2 ≤ s.2 <;> simp [h1, h2, h3] <;> omega
  · by_cases h2 : b.2 < a.2
    · rw [if_pos h2, if_neg h1, hsym]
      by_cases h3 : a.2 ≤ s.2 <;> by_cases h4 : b.2 ≤ s.2 <;> simp [h1, h3, h4] <;> try omega
      have : turn a b s ≠ 0 := fun e => by
        have := on_of (a := b) (b := a) (s := s) (by omega) h2 h4 (by omega)
        rw [onB_symm, h] at this
        cases this
      by_cases h5 : turn a b s < 0
      · have q1 : s.2 < a.2 := by omega
        have q2 : ¬ 0 < turn a b s := by omega
        simp [h5, q1, q2]
      · simp [h5]; omega
    · have : a.2 = b.2 := by omega
      rw [if_neg h2, if_neg h1, this]
      by_cases h3 : b.2 ≤ s.2 <;> simp [h3] <;> omega
def anyOn (l : List PG.Pt) (s : PG.Pt) : Bool := (List.range l.length).any fun i => onB (at_ l i) (nx l (i + 1)) s
def parity (l : List PG.Pt) (s : PG.Pt) : Bool := (List.range l.length).foldl (fun k i => if sideX (at_ l i) (nx l (i + 1)) s then !k else k) false
def whereD (l : List PG.Pt) (s : PG.Pt) : D := if anyOn l s = true then .str "on" else if parity l s = true then .str "in" else .str "out"
theorem e_l_where {d : D} {l : List PG.Pt} {s : PG.Pt} (hd : IsPs d l) (hb : AllB 1000000 l) (hs : Bd 1000000 s) : m_l_where [d, pt s] = .ok (whereD l s) := by
  have he := enum_ps hd
  have hloop := forL_ra (fun (i : Nat) => (PyData.tuple [.int (i : Int), pt (at_ l i)] : D)) (sPair 3 4)
    (sSeq (sAsg 5 (cA (pureS m_l_next) (aCons (cVar 0) (aCons (cVar 3) (aCons (cC (.int 1)) aNil)))))
 (sSeq (sIf (cA (pureS m_l_on) (aCons (cVar 4) (aCons (cVar 5) (aCons (cVar 1) aNil)))) (sRet (cC (.str "on"))) sNext)
 (sIf (c2 gNe (c2 gLe (c2 gIx (cVar 4) (cC (.int 1))) (c2 gIx (cVar 1) (cC (.int 1)))) (c2 gLe (c2 gIx (cVar 5) (cC (.int 1))) (c2 gIx (cVar 1) (cC (.int 1))))) (sIf (c2 gEq (c2 gGt (cA (pureS m_l_turn) (aCons (cVar 4) (aCons (cVar 5) (aCons (cVar 1) aNil)))) (cC (.int 0))) (c2 gGt (c2 gIx (cVar 5) (cC (.int 1))) (c2 gIx (cVar 4) (cC (.int 1))))) (sAsg 2 (cNot (cVar 2))) sNext) sNext)))
    (fun (k : Bool) σ => ∃ a b c, σ = [.val d, .val (pt s), .val (.bool k), a, b, c]) (fun i => onB (at_ l i) (nx l (i + 1)) s)
    (fun k i => if sideX (at_ l i) (nx l (i + 1)) s then !k else k) (.str "on") (List.range l.length) false [.val d, .val (pt s), .val (.bool false), .non, .non, .non] ⟨_, _, _, rfl⟩ (by
      rintro k i hi σ ⟨a, b, c, rfl⟩
      have hi := List.mem_range.mp hi
      have h0 : 0 < l.length := by omega
      have hn := e_next1 hd h0 i
      have hon := e_l_on (hb.at_ hi) (hb.nx h0 (i + 1)) hs
      have htu := e_l_turn (hb.at_ hi) (hb.nx h0 (i + 1)) hs
      refine ⟨_, rfl, ?_, ?_⟩
      · intro h
        rw [h] at hon
        simp only [runP_eq, runX_eq, iniS, sSeq_eq, sIf_eq, brB_ok, sq_nx, sq_rt, sq_ite, unr_rt, unr_ite, and_b, or_b, or_t, or_f, and_t, and_f, not_b, bok, vE, fE, Sl.f, Sl.v, sNext, sRet, sAsg, sAsg2, hEv, sPar, hEvA, c1, c2, cA, cVar, cC, cAnd, cOr, cNot, cChain, aNil, aCons, gAdd_int, gSub_int, gNeg_int, gLt_int, gLe_int, gGt_int, gGe_int, gEq_int, gNe_int, min_int, max_int, ix0, ix1, mk_pt, pureS, tName, tPair, sName, sPair, wipeE, List.map_cons, List.map_nil, List.set_cons_succ, List.set_cons_zero, List.getElem?_cons_zero, List.getElem?_cons_succ, hn, hon, if_true]
      · intro h
        rw [h] at hon
        have hbe : ∀ x y : Bool, gEq (.bool x) (.bool y) = .ok (.bool (x == y)) := by intro x y; cases x <;> cases y <;> rfl
        have hbn : ∀ x y : Bool, gNe (.bool x) (.bool y) = .ok (.bool (x != y)) := by intro x y; cases x <;> cases y <;> rfl
        unfold sideX
        cases h1 : (decide ((at_ l i).2 ≤ s.2) != decide ((nx l (i + 1)).2 ≤ s.2)) <;> cases h2 : (decide (0 < turn (at_ l i) (nx l (i + 1)) s) == decide ((at_ l i).2 < (nx l (i + 1)).2)) <;>
          simp only [runP_eq, runX_eq, iniS, sSeq_eq, sIf_eq, brB_ok, sq_nx, sq_rt, sq_ite, unr_rt, unr_ite, and_b, or_b, or_t, or_f, and_t, and_f, not_b, bok, vE, fE, Sl.f, Sl.v, sNext, sRet, sAsg, sAsg2, hEv, sPar, hEvA, c1, c2, cA, cVar, cC, cAnd, cOr, cNot, cChain, aNil, aCons, gAdd_int, gSub_int, gNeg_int, gLt_int, gLe_int, gGt_int, gGe_int, gEq_int, gNe_int, min_int, max_int, ix0, ix1, mk_pt, pureS, tName, tPair, sName, sPair, wipeE, List.map_cons, List.map_nil, List.set_cons_succ, List.set_cons_zero, List.getElem?_cons_zero, List.getElem?_cons_succ, hn, hon, htu, hbe, hbn, h1, h2, if_true, if_false, Bool.false_eq_true, Bool.and_true, Bool.and_false, Bool.true_and] <;> exact ⟨_, rfl, _, _, _, rfl⟩)
  unfold m_l_where b_l_where
  rw [runP_eq, sSeq_eq, show sAsg 2 (cC (.bool false)) (iniS 6 [d, pt s]) = .nx [.val d, .val (pt s), .val (.bool false), .non, .non, .non] from rfl, sq_nx, sSeq_eq, sFor_ok (cs := fun ρ => ((aCons (cVar 0) aNil) ρ).bind enumV) ((at1 (d := d) rfl).trans he)]
  unfold whereD anyOn
  cases h : (List.range l.length).any fun i => onB (at_ l i) (nx l (i + 1)) s with
  | true =>
    rw [hloop.1 h]; rfl
  | false =>
    obtain ⟨σ', h1, a, b, c, h2⟩ := hloop.2 h
    rw [h1, sq_nx, h2]
    show _ = R.ok (if parity l s = true then (.str "in" : D) else .str "out")
    change unr (sRet _ [.val d, .val (pt s), .val (.bool (parity l s)), a, b, c]) = _
    cases parity l s <;> rfl
end PL

set_option Elab.async false
set_option linter.all false
set_option maxRecDepth 100000
set_option maxHeartbeats 1000000
namespace PL
open PySem L2 PG
def sideD (a b : PG.Pt) : D := .tuple [pt a, pt b]
def sidesD (l : List PG.Pt) : D := .list ((List.range l.length).map fun i => sideD (at_ l i) (nx l (i + 1)))
theorem e_sides {d : D} {l : List PG.Pt} (hd : IsPs d l) (hl : l.length < 1000) : m_p_sides_of [d] = .ok (sidesD l) := by
  unfold m_p_sides_of b_p_sides_of
  rw [runP_eq]
  refine congrArg unr (sRet_ok (d := sidesD l) ?_) |>.trans rfl
  unfold sidesD
  refine cLc_map (fun (i : Nat) => (.tuple [.int (i : Int), pt (at_ l i)] : D)) (xs := List.range l.length) (fun i => sideD (at_ l i) (nx l (i + 1))) ((at1 (d := d) rfl).trans (enum_ps hd)) (by rw [List.length_range]; exact le_size hl) (by
    intro i hi
    have hi := List.mem_range.mp hi
    have h0 : 0 < l.length := by omega
    refine ⟨_, rfl, fn2 (x := pt (at_ l i)) (y := pt (nx l (i + 1))) rfl (c2_is (y := .int (((i + 1) % l.length : Nat) : Int)) rfl (c2_is (x := .int ((i + 1 : Nat) : Int)) rfl (fn1 rfl (len_ps hd)) (mod_nat h0)) (ix_ps hd (Nat.mod_lt _ h0))) (size2 _ _)⟩)
theorem hts (p : PG.Pt) : m_p_height [pt p] = .ok (.int p.2) := rfl
theorem e_p_where {d : D} {l : List PG.Pt} {s : PG.Pt} (hd : IsPs d l) (hb : AllB 1000000 l) (hl : l.length < 1000) (hs : Bd 1000000 s) : m_p_where [d, pt s] = .ok (whereD l s) := by
  have he := e_sides hd hl
  have hloop := forL_ra (fun (i : Nat) => sideD (at_ l i) (nx l (i + 1))) (sPair 3 4)
    (sSeq (sIf (cA (pureS m_p_lies_on) (aCons (cVar 3) (aCons (cVar 4) (aCons (cVar 1) aNil)))) (sRet (cC (.str "on"))) sNext)
 (sSeq (sAsg 5 (c2 (gmin2K m_p_height) (cVar 3) (cVar 4)))
 (sSeq (sAsg 6 (c2 (gmax2K m_p_height) (cVar 3) (cVar 4)))
 (sIf (cAnd (cChain gLe gLt (c2 gIx (cVar 5) (cC (.int 1))) (c2 gIx (cVar 1) (cC (.int 1))) (c2 gIx (cVar 6) (cC (.int 1)))) (c2 gGt (cA (pureS m_p_turn) (aCons (cVar 5) (aCons (cVar 6) (aCons (cVar 1) aNil)))) (cC (.int 0)))) (sAsg 2 (cNot (cVar 2))) sNext))))
    (fun (k : Bool) σ => ∃ a b c e, σ = [.val d, .val (pt s), .val (.bool k), a, b, c, e]) (fun i => onB (at_ l i) (nx l (i + 1)) s)
    (fun k i => if sideX (at_ l i) (nx l (i + 1)) s then !k else k) (.str "on") (List.range l.length) false [.val d, .val (pt s), .val (.bool false), .non, .non, .non, .non] ⟨_, _, _, _, rfl⟩ (by
      rintro k i hi σ ⟨a, b, c, e, rfl⟩
      have hi := List.mem_range.mp hi
      have h0 : 0 < l.length := by omega
      have b1 := hb.at_ hi
      have b2 := hb.nx h0 (i + 1)
      have hon := e_p_on b1 b2 hs
      refine ⟨_, rfl, ?_, ?_⟩
      · intro h
        rw [h] at hon
        simp only [runP_eq, runX_eq, iniS, sSeq_eq, sIf_eq, brB_ok, sq_nx, sq_rt, sq_ite, unr_rt, unr_ite, and_b, or_b, or_t, or_f, and_t, and_f, not_b, bok, vE, fE, Sl.f, Sl.v, sNext, sRet, sAsg, sAsg2, hEv, sPar, hEvA, c1, c2, cA, cVar, cC, cAnd, cOr, cNot, cChain, aNil, aCons, gAdd_int, gSub_int, gNeg_int, gLt_int, gLe_int, gGt_int, gGe_int, gEq_int, gNe_int, min_int, max_int, ix0, ix1, mk_pt, pureS, tName, tPair, sName, sPair, wipeE, List.map_cons, List.map_nil, List.set_cons_succ, List.set_cons_zero, List.getElem?_cons_zero, List.getElem?_cons_succ, hon, if_true]
      · intro h
        rw [h] at hon
        rw [← side_eq h]
        generalize at_ l i = p at *
        generalize nx l (i + 1) = q at *
        have hmin : gmin2K m_p_height (pt p) (pt q) = .ok (pt (lowP p q)) := by
          unfold gmin2K lowP
          rw [hts, hts]
          dsimp only
          split <;> rfl
        have hmax : gmax2K m_p_height (pt p) (pt q) = .ok (pt (highP p q)) := by
          unfold gmax2K highP
          rw [hts, hts]
          dsimp only
          split <;> rfl
        have bl : Bd 1000000 (lowP p q) := by unfold lowP; split <;> assumption
        have bh : Bd 1000000 (highP p q) := by unfold highP; split <;> assumption
        have htu := e_p_turn bl bh hs
        unfold sideP
        cases h1 : decide ((lowP p q).2 ≤ s.2) <;> cases h2 : decide (s.2 < (highP p q).2) <;> cases h3 : decide (0 < turn (lowP p q) (highP p q) s) <;>
          simp only [runP_eq, runX_eq, iniS, sSeq_eq, sIf_eq, brB_ok, sq_nx, sq_rt, sq_ite, unr_rt, unr_ite, and_b, or_b, or_t, or_f, and_t, and_f, not_b, bok, vE, fE, Sl.f, Sl.v, sNext, sRet, sAsg, sAsg2, hEv, sPar, hEvA, c1, c2, cA, cVar, cC, cAnd, cOr, cNot, cChain, aNil, aCons, gAdd_int, gSub_int, gNeg_int, gLt_int, gLe_int, gGt_int, gGe_int, gEq_int, gNe_int, min_int, max_int, ix0, ix1, mk_pt, pureS, tName, tPair, sName, sPair, wipeE, List.map_cons, List.map_nil, List.set_cons_succ, List.set_cons_zero, List.getElem?_cons_zero, List.getElem?_cons_succ, hon, hmin, hmax, htu, h1, h2, h3, if_true, if_false, Bool.false_eq_true, Bool.and_true, Bool.and_false, Bool.true_and, Bool.false_and] <;> exact ⟨_, rfl, _, _, _, _, rfl⟩)
  unfold m_p_where b_p_where
  rw [runP_eq, sSeq_eq, show sAsg 2 (cC (.bool false)) (iniS 7 [d, pt s]) = .nx [.val d, .val (pt s), .val (.bool false), .non, .non, .non, .non] from rfl, sq_nx, sSeq_eq, sFor_ok (cs := cSrc (cA (pureS m_p_sides_of) (aCons (cVar 0) aNil))) (src1 (call1 (x := d) rfl he) rfl)]
  unfold whereD anyOn
  cases h : (List.range l.length).any fun i => onB (at_ l i) (nx l (i + 1)) s with
  | true =>
    rw [hloop.1 h]; rfl
  | false =>
    obtain ⟨σ', h1, a, b, c, e, h2⟩ := hloop.2 h
    rw [h1, sq_nx, h2]
    show _ = R.ok (if parity l s = true then (.str "in" : D) else .str "out")
    change unr (sSeq _ _ [.val d, .val (pt s), .val (.bool (parity l s)), a, b, c, e]) = _
    cases parity l s <;> rfl
theorem mixed_nn (ns : List Int) (k : Nat) : 0 ≤ mixed ns k := by unfold mixed mixedN; exact Int.emod_nonneg _ (by decide)
theorem where_eq (l : List PG.Pt) (s : PG.Pt) : gEq (whereD l s) (whereD l s) = .ok (.bool true) := by
  unfold whereD
  split
  · rfl
  · split <;> rfl
theorem law21_true (ns : List Int) : m_l_law_k21 [intsD ns] = .ok (.bool true) := by
  obtain ⟨w, hw, hw1, hw2⟩ : ∃ w : Int, gIx (.tuple [.int 4, .int 9, .int 40]) (.int (mixed ns 1 % 3)) = .ok (.int w) ∧ 4 ≤ w ∧ w ≤ 40 := by
    have : mixed ns 1 % 3 = 0 ∨ mixed ns 1 % 3 = 1 ∨ mixed ns 1 % 3 = 2 := by omega
    rcases this with h | h | h <;> rw [h]
    · exact ⟨4, rfl, by decide, by decide⟩
    · exact ⟨9, rfl, by decide, by decide⟩
    · exact ⟨40, rfl, by decide, by decide⟩
  have hp := e_plot (mixed ns 0) w (by omega) (by omega)
  have hpb := plot_bd (mixed ns 0) w (by omega) (by omega)
  have m0 := e_mixed ns 0
  have m1 := e_mixed ns 1
  have m2 := e_mixed ns 2
  have n2 := mixed_nn ns 2
  generalize plot (mixed ns 0) w = l at *
  generalize mixed ns 2 = n at *
  have hd : IsPs (.tuple (l.map pt)) l := .inr rfl
  have hb : AllB 1000000 l := hpb.1.mono (by decide)
  have hlen := len_ps hd
  have h0 := hpb.2.2
  have mod3 : gMod (.int (mixed ns 1)) (.int 3) = .ok (.int (mixed ns 1 % 3)) := gMod_int (by decide)
  -- the last line
  have last : ∀ (s : PG.Pt) (a b c : Sl), Bd 1000000 s → sRet (c2 gEq (cA (pureS m_p_where) (aCons (cVar 2) (aCons (cVar 4) aNil))) (cA (pureS m_l_where) (aCons (cVar 2) (aCons (cVar 4) aNil)))) [.val (intsD ns), .val (.int w), .val (.tuple (l.map pt)), .val (.int n), .val (pt s), a, b, c] = .rt (.bool true) := fun s a b c hs =>
    sRet_ok (c2_is (call2 rfl rfl (e_p_where hd hb (by omega) hs)) (call2 rfl rfl (e_l_where hd hb hs)) (where_eq l s))
  have d8 : gDiv (.int n) (.int 8) = .ok (.int (n / 8)) := gDiv_int (by decide)
  have d800 : gDiv (.int n) (.int 800) = .ok (.int (n / 800)) := gDiv_int (by decide)
  have d2400 : gDiv (.int n) (.int 2400) = .ok (.int (n / 2400)) := gDiv_int (by decide)
  have mm : ∀ x : Int, gMod (.int x) (.int (2 * w + 3)) = .ok (.int (x % (2 * w + 3))) := fun x => gMod_int (by omega)
  have m4 : gMod (.int n) (.int 4) = .ok (.int (n % 4)) := gMod_int (by decide)
  have mul2 : gMul (.int 2) (.int w) = .ok (.int (2 * w)) := gMul_int (c2' w)
  obtain ⟨j, hj, hjl⟩ : ∃ j : Nat, gMod (.int (n / 8)) (.int (l.length : Int)) = .ok (.int (j : Int)) ∧ j < l.length := by
    have q1 := Int.emod_nonneg (n / 8) (show (l.length : Int) ≠ 0 by omega)
    have q2 := Int.emod_lt_of_pos (n / 8) (show (0 : Int) < (l.length : Int) by omega)
    exact ⟨(n / 8 % (l.length : Int)).toNat, by rw [gMod_int (by omega)]; congr 2; omega, by omega⟩
  have hxj := ix_ps hd hjl
  have bj := hpb.1.at_ hjl
  have hnj := e_next1 hd h0 j
  have bnj := hpb.1.nx h0 (j + 1)
  unfold m_l_law_k21 b_l_law_k21
  rw [runP_eq, sSeq_eq, show sAsg 1 (c2 gIx (cA mkTup (aCons (cC (.int 4)) (aCons (cC (.int 9)) (aCons (cC (.int 40)) aNil)))) (c2 gMod (cA (pureS m_l_mixed) (aCons (cVar 0) (aCons (cC (.int 1)) aNil))) (cC (.int 3)))) (iniS 8 [intsD ns]) = .nx [.val (intsD ns), .val (.int w), .non, .non, .non, .non, .non, .non] from
      sAsg_ok (c2_is (x := .tuple [.int 4, .int 9, .int 40]) (fn3 rfl rfl rfl (size3 _ _ _)) (c2_is (call2 rfl rfl m1) rfl mod3) hw), sq_nx, sSeq_eq,
    show sAsg 2 (cA (pureS m_l_plot) (aCons (cA (pureS m_l_mixed) (aCons (cVar 0) (aCons (cC (.int 0)) aNil))) (aCons (cVar 1) aNil))) [.val (intsD ns), .val (.int w), .non, .non, .non, .non, .non, .non] = .nx [.val (intsD ns), .val (.int w), .val (.tuple (l.map pt)), .non, .non, .non, .non, .non] from
      sAsg_ok (call2 (call2 rfl rfl m0) rfl hp), sq_nx, sSeq_eq,
    show sAsg 3 (cA (pureS m_l_mixed) (aCons (cVar 0) (aCons (cC (.int 2)) aNil))) [.val (intsD ns), .val (.int w), .val (.tuple (l.map pt)), .non, .non, .non, .non, .non] = .nx [.val (intsD ns), .val (.int w), .val (.tuple (l.map pt)), .val (.int n), .non, .non, .non, .non] from sAsg_ok (call2 rfl rfl m2), sq_nx, sSeq_eq]
  obtain ⟨s0, hs0, bs0⟩ : ∃ s0 : PG.Pt, sAsg 4 (cA mkTup (aCons (c2 gSub (c2 gSub (c2 gMod (c2 gDiv (cVar 3) (cC (.int 8))) (c2 gAdd (c2 gMul (cC (.int 2)) (cVar 1)) (cC (.int 3)))) (cVar 1)) (cC (.int 1))) (aCons (c2 gSub (c2 gSub (c2 gMod (c2 gDiv (cVar 3) (cC (.int 800))) (c2 gAdd (c2 gMul (cC (.int 2)) (cVar 1)) (cC (.int 3)))) (cVar 1)) (cC (.int 1))) aNil)))
      [.val (intsD ns), .val (.int w), .val (.tuple (l.map pt)), .val (.int n), .non, .non, .non, .non] = .nx [.val (intsD ns), .val (.int w), .val (.tuple (l.map pt)), .val (.int n), .val (pt s0), .non, .non, .non] ∧ Bd 1000000 s0 := by
    refine ⟨(n / 8 % (2 * w + 3) - w - 1, n / 800 % (2 * w + 3) - w - 1), sAsg_ok (fn2 (c2_is (c2_is (c2_is (c2_is rfl rfl d8) (c2_is (c2_is rfl rfl mul2) rfl rfl) (mm _)) rfl rfl) rfl rfl) (c2_is (c2_is (c2_is (c2_is rfl rfl d800) (c2_is (c2_is rfl rfl mul2) rfl rfl) (mm _)) rfl rfl) rfl rfl) (mk_pt _ _)), ?_⟩
    have q1 := Int.emod_nonneg (n / 8) (show 2 * w + 3 ≠ 0 by omega)
    have q2 := Int.emod_lt_of_pos (n / 8) (show 0 < 2 * w + 3 by omega)
    have q3 := Int.emod_nonneg (n / 800) (show 2 * w + 3 ≠ 0 by omega)
    have q4 := Int.emod_lt_of_pos (n / 800) (show 0 < 2 * w + 3 by omega)
    exact Bd_of (by omega) (by omega) (by omega) (by omega)
  rw [hs0, sq_nx, sSeq_eq]
  obtain ⟨s1, hs1, bs1⟩ : ∃ s1 : PG.Pt, sIf (c2 gEq (c2 gMod (cVar 3) (cC (.int 4))) (cC (.int 1))) (sAsg 4 (c2 gIx (cVar 2) (c2 gMod (c2 gDiv (cVar 3) (cC (.int 8))) (cA gLen (aCons (cVar 2) aNil))))) sNext
      [.val (intsD ns), .val (.int w), .val (.tuple (l.map pt)), .val (.int n), .val (pt s0), .non, .non, .non] = .nx [.val (intsD ns), .val (.int w), .val (.tuple (l.map pt)), .val (.int n), .val (pt s1), .non, .non, .non] ∧ Bd 1000000 s1 := by
    rw [sIf_eq, show (c2 gEq (c2 gMod (cVar 3) (cC (.int 4))) (cC (.int 1))) (fE [.val (intsD ns), .val (.int w), .val (.tuple (l.map pt)), .val (.int n), .val (pt s0), .non, .non, .non]) = .ok (.bool (decide (n % 4 = 1))) from c2_is (c2_is rfl rfl m4) rfl (gEq_int _ _), brB_ok]
    split
    · exact ⟨at_ l j, sAsg_ok (c2_is rfl (c2_is (c2_is rfl rfl d8) (fn1 rfl hlen) hj) hxj), Bd.mono bj (by decide)⟩
    · exact ⟨s0, rfl, bs0⟩
  rw [hs1, sq_nx, sSeq_eq, sIf_eq, show (c2 gGt (c2 gMod (cVar 3) (cC (.int 4))) (cC (.int 1))) (fE [.val (intsD ns), .val (.int w), .val (.tuple (l.map pt)), .val (.int n), .val (pt s1), .non, .non, .non]) = .ok (.bool (decide (1 < n % 4))) from c2_is (c2_is rfl rfl m4) rfl (gGt_int _ _), brB_ok]
  split
  · have m3 : gMod (.int (n / 800)) (.int 3) = .ok (.int (n / 800 % 3)) := gMod_int (by decide)
    have m3' : gMod (.int (n / 2400)) (.int 3) = .ok (.int (n / 2400 % 3)) := gMod_int (by decide)
    have dv2 : ∀ x : Int, gDiv (.int x) (.int 2) = .ok (.int (x / 2)) := fun x => gDiv_int (by decide)
    generalize hpj : at_ l j = p at *
    generalize hqj : nx l (j + 1) = q at *
    have e1 : sAsg 5 (c2 gMod (c2 gDiv (cVar 3) (cC (.int 8))) (cA gLen (aCons (cVar 2) aNil))) [.val (intsD ns), .val (.int w), .val (.tuple (l.map pt)), .val (.int n), .val (pt s1), .non, .non, .non] = .nx [.val (intsD ns), .val (.int w), .val (.tuple (l.map pt)), .val (.int n), .val (pt s1), .val (.int (j : Int)), .non, .non] :=
      sAsg_ok (c2_is (c2_is rfl rfl d8) (fn1 rfl hlen) hj)
    have e2 : sAsg 6 (c2 gIx (cVar 2) (cVar 5)) [.val (intsD ns), .val (.int w), .val (.tuple (l.map pt)), .val (.int n), .val (pt s1), .val (.int (j : Int)), .non, .non] = .nx [.val (intsD ns), .val (.int w), .val (.tuple (l.map pt)), .val (.int n), .val (pt s1), .val (.int (j : Int)), .val (pt p), .non] :=
      sAsg_ok (c2_is rfl rfl hxj)
    have e3 : sAsg 7 (cA (pureS m_l_next) (aCons (cVar 2) (aCons (cVar 5) (aCons (cC (.int 1)) aNil)))) [.val (intsD ns), .val (.int w), .val (.tuple (l.map pt)), .val (.int n), .val (pt s1), .val (.int (j : Int)), .val (pt p), .non] = .nx [.val (intsD ns), .val (.int w), .val (.tuple (l.map pt)), .val (.int n), .val (pt s1), .val (.int (j : Int)), .val (pt p), .val (pt q)] :=
      sAsg_ok (call3 rfl rfl rfl hnj)
    rw [sSeq_eq, e1, sq_nx, sSeq_eq, e2, sq_nx, sSeq_eq, e3, sq_nx]
    have e4 : sAsg 4 (cA mkTup (aCons (c2 gSub (c2 gAdd (c2 gDiv (c2 gAdd (c2 gIx (cVar 6) (cC (.int 0))) (c2 gIx (cVar 7) (cC (.int 0)))) (cC (.int 2))) (c2 gMod (c2 gDiv (cVar 3) (cC (.int 800))) (cC (.int 3)))) (cC (.int 1))) (aCons (c2 gSub (c2 gAdd (c2 gDiv (c2 gAdd (c2 gIx (cVar 6) (cC (.int 1))) (c2 gIx (cVar 7) (cC (.int 1)))) (cC (.int 2))) (c2 gMod (c2 gDiv (cVar 3) (cC (.int 2400))) (cC (.int 3)))) (cC (.int 1))) aNil)))
        [.val (intsD ns), .val (.int w), .val (.tuple (l.map pt)), .val (.int n), .val (pt s1), .val (.int (j : Int)), .val (pt p), .val (pt q)] = .nx [.val (intsD ns), .val (.int w), .val (.tuple (l.map pt)), .val (.int n), .val (pt ((p.1 + q.1) / 2 + n / 800 % 3 - 1, (p.2 + q.2) / 2 + n / 2400 % 3 - 1)), .val (.int (j : Int)), .val (pt p), .val (pt q)] :=
      sAsg_ok (fn2 (c2_is (c2_is (c2_is (c2_is (c2_is rfl rfl (ix0 p)) (c2_is rfl rfl (ix0 q)) rfl) rfl (dv2 _)) (c2_is (c2_is rfl rfl d800) rfl m3) rfl) rfl rfl) (c2_is (c2_is (c2_is (c2_is (c2_is rfl rfl (ix1 p)) (c2_is rfl rfl (ix1 q)) rfl) rfl (dv2 _)) (c2_is (c2_is rfl rfl d2400) rfl m3') rfl) rfl rfl) (mk_pt _ _))
    rw [e4, sq_nx, last _ _ _ _ (by unfold Bd at *; exact Bd_of (by omega) (by omega) (by omega) (by omega))]
    rfl
  · rw [show sNext [.val (intsD ns), .val (.int w), .val (.tuple (l.map pt)), .val (.int n), .val (pt s1), .non, .non, .non] = .nx [.val (intsD ns), .val (.int w), .val (.tuple (l.map pt)), .val (.int n), .val (pt s1), .non, .non, .non] from rfl, sq_nx, last s1 _ _ _ bs1]
    rfl
end PL

set_option Elab.async false
set_option linter.all false
set_option maxRecDepth 100000
set_option maxHeartbeats 1000000
namespace PL
open PySem L2 PG
theorem sum_ints (ns : List Int) : gSum [.list (ns.map .int)] = .ok (.int ns.sum) := by
  unfold gSum
  dsimp only
  rw [asInts_map]
theorem e_p_area {d : D} {l : List PG.Pt} (hd : IsPs d l) (hb : AllB 1000000 l) (hl : l.length < 1000) : m_p_twice_area_of [d] = .ok (.int (area l)) := by
  unfold m_p_twice_area_of b_p_twice_area_of
  rw [runP_eq]
  refine congrArg unr (sRet_ok (d := .int (area l)) ?_) |>.trans rfl
  unfold area
  refine fn1 ?_ (sum_ints _)
  rw [List.map_map]
  refine cLc_map (fun (i : Nat) => sideD (at_ l i) (nx l (i + 1))) (xs := List.range l.length) (fun i => (.int (crossT (at_ l i) (nx l (i + 1))) : D)) (src1 (call1 (x := d) rfl (e_sides hd hl)) rfl) (by rw [List.length_range]; exact le_size hl) (by
    intro i hi
    have hi := List.mem_range.mp hi
    have h0 : 0 < l.length := by omega
    have b1 := hb.at_ hi
    have b2 := hb.nx h0 (i + 1)
    unfold Bd at b1 b2
    generalize at_ l i = p at *
    generalize nx l (i + 1) = q at *
    exact ⟨_, rfl, c2_is (c2_is (c2_is rfl rfl (ix0 p)) (c2_is rfl rfl (ix1 q)) (gMul_int (mulB (by omega) (by omega)))) (c2_is (c2_is rfl rfl (ix1 p)) (c2_is rfl rfl (ix0 q)) (gMul_int (mulB (by omega) (by omega)))) rfl⟩)
theorem e_p_in_order {d : D} {l : List PG.Pt} (hd : IsPs d l) (hb : AllB 1000000 l) (h0 : l ≠ []) (hl : l.length < 900) : m_p_in_order [d] = .ok (.tuple ((inOrder l).map pt)) := by
  have hlist := list_ps hd
  have harea := e_p_area (.inl rfl : IsPs (.list (l.map pt)) l) hb (by omega)
  have hif : sIf (c2 gLt (cA (pureS m_p_twice_area_of) (aCons (cVar 1) aNil)) (cC (.int 0))) (sAsg 1 (c1 gRev (cVar 1))) sNext [.val d, .val (.list (l.map pt)), .non] = .nx [.val d, .val (.list ((orient l).map pt)), .non] := by
    unfold orient
    by_cases h : area l < 0
    · simp [runP_eq, runX_eq, iniS, sSeq_eq, sIf_eq, brB_ok, sq_nx, sq_rt, sq_ite, unr_rt, unr_ite, and_b, or_b, or_t, or_f, and_t, and_f, not_b, bok, vE, fE, Sl.f, Sl.v, sNext, sRet, sAsg, sAsg2, hEv, sPar, hEvA, c1, c2, cA, cVar, cC, cAnd, cOr, cNot, cChain, aNil, aCons, gAdd_int, gSub_int, gNeg_int, gLt_int, gLe_int, gGt_int, gGe_int, gEq_int, gNe_int, min_int, max_int, ix0, ix1, mk_pt, pureS, tName, tPair, sName, sPair, wipeE, harea, h, rev_ps]
    · simp [runP_eq, runX_eq, iniS, sSeq_eq, sIf_eq, brB_ok, sq_nx, sq_rt, sq_ite, unr_rt, unr_ite, and_b, or_b, or_t, or_f, and_t, and_f, not_b, bok, vE, fE, Sl.f, Sl.v, sNext, sRet, sAsg, sAsg2, hEv, sPar, hEvA, c1, c2, cA, cVar, cC, cAnd, cOr, cNot, cChain, aNil, aCons, gAdd_int, gSub_int, gNeg_int, gLt_int, gLe_int, gGt_int, gGe_int, gEq_int, gNe_int, min_int, max_int, ix0, ix1, mk_pt, pureS, tName, tPair, sName, sPair, wipeE, harea, h]
  unfold m_p_in_order b_p_in_order
  rw [runP_eq, sSeq_eq, show sAsg 1 (cA gList (aCons (cVar 0) aNil)) (iniS 3 [d]) = .nx [.val d, .val (.list (l.map pt)), .non] from sAsg_ok (fn1 rfl hlist), sq_nx, sSeq_eq, hif, sq_nx]
  have h0' : orient l ≠ [] := fun e => h0 (List.eq_nil_of_length_eq_zero (by rw [← orient_len, e]; rfl))
  have hmem := minL_mem h0'
  have hmin := min_ps (.inl rfl : IsPs (.list ((orient l).map pt)) (orient l)) h0'
  have hidx := index_ps hmem
  have hlt := List.idxOf_lt_length_of_mem hmem
  unfold inOrder
  have hlen := orient_len l
  generalize (orient l).idxOf (PG.minL (orient l)) = k at *
  have hc1 := cut_from (orient l) (Nat.le_of_lt hlt)
  have hc2 := cut_to (orient l) (Nat.le_of_lt hlt)
  have hadd := add_ll ((orient l).drop k) ((orient l).take k) (by rw [List.length_drop, List.length_take]; omega)
  have htup := tuple_ps (.inl rfl : IsPs (.list (((orient l).drop k ++ (orient l).take k).map pt)) _)
  rw [sSeq_eq, show sAsg 2 (cM "list" gIndex (cVar 1) (aCons (cA gMin (aCons (cVar 1) aNil)) aNil)) [.val d, .val (.list ((orient l).map pt)), .non] = .nx [.val d, .val (.list ((orient l).map pt)), .val (.int (k : Int))] from sAsg_ok (by
    simp [runP_eq, runX_eq, iniS, sSeq_eq, sIf_eq, brB_ok, sq_nx, sq_rt, sq_ite, unr_rt, unr_ite, and_b, or_b, or_t, or_f, and_t, and_f, not_b, bok, vE, fE, Sl.f, Sl.v, sNext, sRet, sAsg, sAsg2, hEv, sPar, hEvA, c1, c2, cA, cVar, cC, cAnd, cOr, cNot, cChain, aNil, aCons, gAdd_int, gSub_int, gNeg_int, gLt_int, gLe_int, gGt_int, gGe_int, gEq_int, gNe_int, min_int, max_int, ix0, ix1, mk_pt, pureS, tName, tPair, sName, sPair, wipeE, cM, isTyD, hmin, hidx]), sq_nx]
  rw [sRet_ok (d := .tuple ((rot (orient l) k).map pt)) (by
    unfold rot
    rw [← htup]
    simp only [runP_eq, runX_eq, iniS, sSeq_eq, sIf_eq, brB_ok, sq_nx, sq_rt, sq_ite, unr_rt, unr_ite, and_b, or_b, or_t, or_f, and_t, and_f, not_b, bok, vE, fE, Sl.f, Sl.v, sNext, sRet, sAsg, sAsg2, hEv, sPar, hEvA, c1, c2, cA, cVar, cC, cAnd, cOr, cNot, cChain, aNil, aCons, gAdd_int, gSub_int, gNeg_int, gLt_int, gLe_int, gGt_int, gGe_int, gEq_int, gNe_int, min_int, max_int, ix0, ix1, mk_pt, pureS, tName, tPair, sName, sPair, wipeE, cSl, oSome, oNone, List.map_cons, List.map_nil, List.getElem?_cons_zero, List.getElem?_cons_succ, hc1, hc2, hadd]), unr_rt]
/-! ### the chain -/
theorem chainR_snoc (s : PG.Pt) : ∀ (l st : List PG.Pt), chainR st (l ++ [s]) = s :: popR (chainR st l) s
  | [], st => rfl
  | x :: l, st => chainR_snoc s l (x :: popR st x)
theorem popR_suf (s : PG.Pt) : ∀ st : List PG.Pt, popR st s <:+ st
  | [] => List.suffix_refl _
  | [_] => List.suffix_refl _
  | b :: a :: r => by
    unfold popR
    split
    · exact (popR_suf s (a :: r)).trans (List.suffix_cons ..)
    · exact List.suffix_refl _
theorem chainR_in : ∀ (l st : List PG.Pt), (∀ p ∈ chainR st l, p ∈ st ∨ p ∈ l) ∧ (chainR st l).length ≤ st.length + l.length
  | [], st => ⟨fun p hp => .inl hp, by simp [chainR]⟩
  | x :: l, st => by
    have ih := chainR_in l (x :: popR st x)
    have hs := popR_suf x st
    refine ⟨fun p hp => ?_, ?_⟩
    · rcases ih.1 p hp with e | e
      · rcases List.mem_cons.mp e with e | e
        · exact .inr (by rw [e]; exact List.mem_cons_self ..)
        · exact .inl (hs.subset e)
      · exact .inr (List.mem_cons_of_mem _ e)
    · have := hs.length_le
      have h2 := ih.2
      show (chainR (x :: popR st x) l).length ≤ _
      simp only [List.length_cons] at h2 ⊢
      omega
def ccond : CE := (cAnd (c2 gGt (cA gLen (aCons (cVar 1) aNil)) (cC (.int 1))) (c2 gLe (cA (pureS m_p_turn) (aCons (c2 gIx (cVar 1) (c1 gNeg (cC (.int 2)))) (aCons (c2 gIx (cVar 1) (c1 gNeg (cC (.int 1)))) (aCons (cVar 2) aNil)))) (cC (.int 0))))
theorem cond_short (d : D) (st : List PG.Pt) (s : PG.Pt) (h : st.length ≤ 1) : ccond (fE [.val d, .own (st.reverse.map pt), .val (pt s)]) = .ok (.bool false) := by
  have hl := len_ps (.inl rfl : IsPs (.list (st.reverse.map pt)) st.reverse)
  have h1 : c2 gGt (cA gLen (aCons (cVar 1) aNil)) (cC (.int 1)) (fE [.val d, .own (st.reverse.map pt), .val (pt s)]) = .ok (.bool false) := by
    rw [c2_is (fn1 rfl hl) rfl (gGt_int _ _)]
    rw [List.length_reverse]
    congr 2
    exact decide_eq_false (by omega)
  unfold ccond cAnd
  rw [h1, bok, and_f]
theorem cond_long (d : D) (b a : PG.Pt) (r : List PG.Pt) (s : PG.Pt) (hb : AllB 1000000 (b :: a :: r)) (hs : Bd 1000000 s) : ccond (fE [.val d, .own ((b :: a :: r).reverse.map pt), .val (pt s)]) = .ok (.bool (decide (turn a b s ≤ 0))) := by
  have hL : IsPs (.list ((b :: a :: r).reverse.map pt)) (b :: a :: r).reverse := .inl rfl
  have hl := len_ps hL
  have h1 : c2 gGt (cA gLen (aCons (cVar 1) aNil)) (cC (.int 1)) (fE [.val d, .own ((b :: a :: r).reverse.map pt), .val (pt s)]) = .ok (.bool true) := by
    rw [c2_is (fn1 rfl hl) rfl (gGt_int _ _)]
    rw [List.length_reverse]
    congr 2
    exact decide_eq_true (by simp only [List.length_cons]; omega)
  have x2 := ix_psN hL (k := 2) (by decide) (by simp)
  have x1 := ix_psN hL (k := 1) (by decide) (by simp)
  have e2 : at_ (b :: a :: r).reverse ((b :: a :: r).reverse.length - 2) = a := by
    rw [List.length_reverse, at_rev (by simp only [List.length_cons]; omega), show (b :: a :: r).length - 1 - ((b :: a :: r).length - 2) = 1 by simp only [List.length_cons]; omega]
    rfl
  have e1 : at_ (b :: a :: r).reverse ((b :: a :: r).reverse.length - 1) = b := by
    rw [List.length_reverse, at_rev (by simp only [List.length_cons]; omega), show (b :: a :: r).length - 1 - ((b :: a :: r).length - 1) = 0 by omega]
    rfl
  rw [e2] at x2
  rw [e1] at x1
  have ht := e_p_turn (hb a (by simp)) (hb b (by simp)) hs
  unfold ccond cAnd
  rw [h1, bok, and_t]
  exact c2_is (call3 (c2_is rfl (c1_is rfl rfl) x2) (c2_is rfl (c1_is rfl rfl) x1) rfl ht) rfl (gLe_int _ _)
theorem pop_loop (d : D) (s : PG.Pt) (hs : Bd 1000000 s) : ∀ (st : List PG.Pt) (f : Nat), AllB 1000000 st → st.length + 1 ≤ f → whileL ccond (sPop 1) f [.val d, .own (st.reverse.map pt), .val (pt s)] = .nx [.val d, .own ((popR st s).reverse.map pt), .val (pt s)]
  | _, 0, _, h => by omega
  | [], f + 1, _, _ => by rw [whileL, cond_short d [] s (by simp)]; rfl
  | [b], f + 1, _, _ => by rw [whileL, cond_short d [b] s (by simp)]; rfl
  | b :: a :: r, f + 1, hb, hf => by
    rw [whileL, cond_long d b a r s hb hs]
    by_cases h : turn a b s ≤ 0
    · rw [decide_eq_true h]
      dsimp only
      have hp : sPop 1 [.val d, .own ((b :: a :: r).reverse.map pt), .val (pt s)] = .nx [.val d, .own ((a :: r).reverse.map pt), .val (pt s)] := by
        unfold sPop
        dsimp only [List.getElem?_cons_succ, List.getElem?_cons_zero]
        rw [if_pos (by simp)]
        rw [show (b :: a :: r).reverse = (a :: r).reverse ++ [b] from List.reverse_cons .., List.map_append, List.map_cons, List.map_nil, List.dropLast_concat]
        rfl
      rw [hp]
      dsimp only
      rw [pop_loop d s hs (a :: r) f (fun p hp => hb p (List.mem_cons_of_mem _ hp)) (by simp only [List.length_cons] at hf ⊢; omega)]
      conv => rhs; unfold popR
      rw [if_pos h]
    · rw [decide_eq_false h]
      dsimp only
      conv => rhs; unfold popR
      rw [if_neg h]
theorem e_p_chain {d : D} {l : List PG.Pt} (hd : IsPs d l) (hb : AllB 1000000 l) (hl : l.length < 1000) : m_p_chain [d] = .ok (.list ((chain l).map pt)) := by
  have hloop := forL_ix pt (sName 2) (sSeq (whileL ccond (sPop 1) FUEL) (sApp 1 (cVar 2))) l (fun i (σ : SE) => ∃ x, σ = [.val d, .own ((chainR [] (l.take i)).reverse.map pt), x]) [.val d, .own [], .non] ⟨_, rfl⟩ (by
    rintro i hi σ ⟨x, rfl⟩
    refine ⟨_, rfl, ?_⟩
    have hin := chainR_in (l.take i) []
    have hbs : AllB 1000000 (chainR [] (l.take i)) := fun p hp => by
      rcases hin.1 p hp with e | e
      · cases e
      · exact hb p (List.mem_of_mem_take e)
    have hlen : (chainR [] (l.take i)).length ≤ i := by
      have := hin.2
      rw [List.length_take] at this
      simp only [List.length_nil] at this
      omega
    have hw := pop_loop d l[i] (hb _ (List.getElem_mem hi)) (chainR [] (l.take i)) FUEL hbs (by
      have : 1000 ≤ FUEL := by unfold FUEL; decide
      omega)
    have hnext : chainR [] (l.take (i + 1)) = l[i] :: popR (chainR [] (l.take i)) l[i] := by
      rw [List.take_succ_eq_append_getElem hi, chainR_snoc]
    have hsz : (popR (chainR [] (l.take i)) l[i]).length < sizeLine := by
      have := (popR_suf l[i] (chainR [] (l.take i))).length_le
      exact Nat.lt_of_lt_of_le (show _ < 1000 by omega) (by decide)
    rw [hnext, sSeq_eq]
    show ∃ σ', sq (whileL ccond (sPop 1) FUEL [.val d, .own ((chainR [] (l.take i)).reverse.map pt), .val (pt l[i])]) _ = _ ∧ _
    rw [hw, sq_nx]
    refine ⟨_, ?_, ⟨.val (pt l[i]), rfl⟩⟩
    unfold sApp
    dsimp only [List.getElem?_cons_succ, List.getElem?_cons_zero]
    rw [hEv_ok (d := pt l[i]) rfl]
    dsimp only
    rw [if_pos (by rw [List.length_map, List.length_reverse]; exact hsz), List.reverse_cons, List.map_append]
    rfl)
  obtain ⟨σ', h1, x, h2⟩ := hloop
  subst h2
  rw [List.take_length] at h1
  unfold m_p_chain b_p_chain
  rw [runP_eq, sSeq_eq, show sNil 1 (iniS 3 [d]) = .nx [.val d, .own [], .non] from rfl, sq_nx, sSeq_eq, sFor_ok (cs := cSrc (cVar 0)) (src1 (d := d) rfl (src_ps hd))]
  unfold ccond at h1
  rw [h1, sq_nx]
  rfl
theorem cut_last (l : List PG.Pt) (h : 0 < l.length) : gSl (.list (l.map pt)) none (some (-1)) = .ok (.list (l.dropLast.map pt)) := by
  unfold gSl cutD
  dsimp only
  rw [HT.sIx_none, List.length_map, List.drop_zero]
  have : HT.sIx l.length l.length (some (-1)) = l.length - 1 := by
    show (if (-1 : Int) < 0 then ((-1 : Int) + (l.length : Int)).toNat else min (-1 : Int).toNat l.length) = _
    rw [if_pos (by decide)]
    omega
  rw [this, ← List.map_take, Nat.sub_zero, List.dropLast_eq_take]
theorem sortSet_ps {d : D} {l : List PG.Pt} (hd : IsPs d l) (h : l.length < 64) : gSortSet d = .ok (.list ((psort l).map pt)) := by
  rcases hd with e | e <;> subst e <;> (unfold gSortSet; dsimp only; rw [asPts_map]; dsimp only; rw [if_pos h])
def aroundL (l : List PG.Pt) : List PG.Pt := ring (chain (psort l)) (chain (psort l).reverse)
theorem psort_facts (l : List PG.Pt) : (∀ p, p ∈ psort l ↔ p ∈ l) ∧ (psort l).length ≤ l.length ∧ (psort l).Pairwise lx := by
  have e := eraseDups_nodup l.length l (Nat.le_refl _)
  have hp := List.mergeSort_perm l.eraseDups leP
  have hlen := (eraseDups_lt l.length l (Nat.le_refl _)).2
  refine ⟨fun p => ?_, by unfold psort; rw [hp.length_eq]; exact hlen, ?_⟩
  · unfold psort
    rw [hp.mem_iff, e.2 p]
  · have h1 : (psort l).Pairwise fun a b => leP a b = true := List.pairwise_mergeSort leP_trans leP_total _
    have h2 : (psort l).Nodup := hp.nodup_iff.mpr e.1
    rw [List.nodup_iff_pairwise_ne] at h2
    refine (h1.and h2).imp fun {a b} h => ?_
    have := h.1
    unfold leP at this
    simp only [decide_eq_true_eq] at this
    have hne := h.2
    unfold lx
    by_cases h3 : a.1 < b.1
    · exact .inl h3
    · right
      have h4 : a.1 = b.1 := by omega
      have : a.2 ≠ b.2 := fun e => hne (Prod.ext h4 e)
      omega
theorem chain_pos {l : List PG.Pt} (h : l ≠ []) : 0 < (chain l).length := by
  unfold chain
  rw [List.length_reverse]
  obtain ⟨m, s, rfl⟩ : ∃ m s, l = m ++ [s] := ⟨l.dropLast, l.getLast h, (List.dropLast_concat_getLast h).symm⟩
  rw [chainR_snoc]
  simp
theorem e_p_around {d : D} {l : List PG.Pt} (hd : IsPs d l) (hb : AllB 1000000 l) (h0 : l ≠ []) (hl : l.length < 64) : m_p_around [d] = if (aroundL l).length < 3 then .exc 1 else .ok (.tuple ((inOrder (aroundL l)).map pt)) := by
  have hf := psort_facts l
  have hbs : AllB 1000000 (psort l) := fun p hp => hb p ((hf.1 p).mp hp)
  have hs0 : psort l ≠ [] := fun e => by
    cases l with
    | nil => exact h0 rfl
    | cons p l => have := (hf.1 p).mpr (List.mem_cons_self ..); rw [e] at this; cases this
  have hs0r : (psort l).reverse ≠ [] := by simpa using hs0
  have hch1 := e_p_chain (.inl rfl : IsPs (.list ((psort l).map pt)) _) hbs (by omega)
  have hch2 := e_p_chain (.inl rfl : IsPs (.list ((psort l).reverse.map pt)) _) hbs.rev (by rw [List.length_reverse]; omega)
  have k1 := cut_last _ (chain_pos hs0)
  have k2 := cut_last _ (chain_pos hs0r)
  have clen : ∀ m : List PG.Pt, (chain m).length ≤ m.length ∧ ∀ p ∈ chain m, p ∈ m := fun m => by
    have := chainR_in m []
    refine ⟨by unfold chain; rw [List.length_reverse]; simpa using this.2, fun p hp => ?_⟩
    unfold chain at hp
    rcases this.1 p (List.mem_reverse.mp hp) with e | e
    · cases e
    · exact e
  have q1 := clen (psort l)
  have q2 := clen (psort l).reverse
  rw [List.length_reverse] at q2
  have hadd := add_ll (chain (psort l)).dropLast (chain (psort l).reverse).dropLast (by rw [List.length_dropLast, List.length_dropLast]; omega)
  have hba : AllB 1000000 (aroundL l) := fun p hp => by
    unfold aroundL ring at hp
    rcases List.mem_append.mp hp with e | e
    · exact hbs p (q1.2 p (List.dropLast_subset _ e))
    · exact hbs p (List.mem_reverse.mp (q2.2 p (List.dropLast_subset _ e)))
  have hla : (aroundL l).length < 900 := by
    unfold aroundL
    rw [ring_len]; omega
  have hln := len_ps (.inl rfl : IsPs (.list ((aroundL l).map pt)) _)
  unfold m_p_around b_p_around
  rw [runX_eq, sSeq_eq, show sAsg 1 (c1 gSortSet (cVar 0)) (iniS 3 [d]) = .nx [.val d, .val (.list ((psort l).map pt)), .non] from sAsg_ok (c1_is rfl (sortSet_ps hd hl)), sq_nx, sSeq_eq]
  have e2 : sAsg 2 (c2 gAdd (cSl (cA (pureS m_p_chain) (aCons (cVar 1) aNil)) oNone (oSome (c1 gNeg (cC (.int 1))))) (cSl (cA (pureS m_p_chain) (aCons (c1 gRev (cVar 1)) aNil)) oNone (oSome (c1 gNeg (cC (.int 1)))))) [.val d, .val (.list ((psort l).map pt)), .non] = .nx [.val d, .val (.list ((psort l).map pt)), .val (.list ((aroundL l).map pt))] := by
    refine sAsg_ok (c2_is (x := .list ((chain (psort l)).dropLast.map pt)) (y := .list ((chain (psort l).reverse).dropLast.map pt)) ?_ ?_ hadd)
    · unfold cSl
      rw [call1 (x := .list ((psort l).map pt)) rfl hch1, bok]
      exact k1
    · unfold cSl
      rw [call1 (x := .list ((psort l).reverse.map pt)) (c1_is rfl (rev_ps _)) hch2, bok]
      exact k2
  rw [e2, sq_nx, sSeq_eq, sIf_eq, show (c2 gLt (cA gLen (aCons (cVar 2) aNil)) (cC (.int 3))) (fE [.val d, .val (.list ((psort l).map pt)), .val (.list ((aroundL l).map pt))]) = .ok (.bool (decide (((aroundL l).length : Int) < 3))) from c2_is (fn1 rfl hln) rfl (gLt_int _ _), brB_ok]
  by_cases h3 : (aroundL l).length < 3
  · rw [if_pos h3, if_pos (decide_eq_true (by omega))]
    rfl
  · rw [if_neg h3, if_neg (by rw [decide_eq_true_eq]; omega)]
    have hio := e_p_in_order (.inl rfl : IsPs (.list ((aroundL l).map pt)) _) hba (fun e => by rw [e] at h3; simp at h3) hla
    show unx (sq (.nx _) _) = _
    rw [sq_nx, sRet_ok (call1 (x := .list ((aroundL l).map pt)) rfl hio), unx_rt]
theorem e_told {d : D} {l : List PG.Pt} (hd : IsPs d l) (hb : AllB 1000000 l) (h0 : l ≠ []) (hl : l.length < 64) : m_l_told [d] = .ok (if (aroundL l).length < 3 then .none else .tuple ((inOrder (aroundL l)).map pt)) := by
  have ha := e_p_around hd hb h0 hl
  unfold m_l_told b_l_told
  rw [runP_eq, sSeq_eq]
  have hcs : (aCons (cVar 0) aNil) (vE (iniS 4 [d])) = .ok [d] := rfl
  have ht : sTry 1 2 1 m_p_around (aCons (cVar 0) aNil) (sGood 3 (c2 gIx (cA mkLst (aCons (cC (.int 0)) (aCons (cC .none) aNil))) (cA gInt (aCons (cVar 3) aNil)))) (iniS 4 [d]) =
      if (aroundL l).length < 3 then .rt .none else .nx [.val d, .val (.tuple ((inOrder (aroundL l)).map pt)), .non, .non] := by
    unfold sTry
    rw [hcs]
    dsimp only
    rw [ha]
    by_cases h : (aroundL l).length < 3
    · rw [if_pos h, if_pos h]
      dsimp only
      rw [if_pos rfl]
      show sGood 3 _ [.val d, .non, .non, .non] = _
      unfold sGood
      dsimp only [List.getElem?_cons_succ, List.getElem?_cons_zero]
      exact sRet_ok (c2_is (x := .list [.int 0, .none]) (fn2 rfl rfl (mkLst_le (by show 2 ≤ sizeLine; decide))) (fn1 (x := .bool true) rfl rfl) rfl)
    · rw [if_neg h, if_neg h]
      rfl
  rw [ht]
  split
  · rfl
  · rw [sq_nx]
    refine congrArg unr (sRet_ok (d := .tuple ((inOrder (aroundL l)).map pt)) ?_) |>.trans rfl
    exact c2_is (x := .list [.tuple ((inOrder (aroundL l)).map pt), .int 0]) (fn2 rfl rfl (mkLst_le (by show 2 ≤ sizeLine; decide))) (fn1 (x := .bool false) rfl rfl) rfl
end PL

set_option Elab.async false
set_option linter.all false
set_option maxRecDepth 100000
set_option maxHeartbeats 1000000
namespace PL
open PySem L2 PG
theorem ltP_lx (p q : PG.Pt) : PG.ltP p q = true ↔ lx p q := by unfold PG.ltP lx; simp
theorem minP_min : ∀ (xs : List PG.Pt) (x q : PG.Pt), q = x ∨ q ∈ xs → q = PG.minP x xs ∨ lx (PG.minP x xs) q
  | [], x, q, h => by
    rcases h with h | h
    · exact .inl h
    · cases h
  | y :: ys, x, q, h => by
    have e : PG.minP x (y :: ys) = PG.minP (if PG.ltP y x = true then y else x) ys := rfl
    rw [e]
    split
    · rename_i h1
      have h1 := (ltP_lx y x).mp h1
      have hy := minP_min ys y y (.inl rfl)
      rcases h with h | h
      · rw [h]
        rcases hy with hy | hy
        · rw [← hy]; exact .inr h1
        · exact .inr (lx_trans hy h1)
      · exact minP_min ys y q (by rcases List.mem_cons.mp h with e | e; exact .inl e; exact .inr e)
    · rename_i h1
      have h1 : ¬ lx y x := fun z => h1 ((ltP_lx y x).mpr z)
      have hx := minP_min ys x x (.inl rfl)
      rcases h with h | h
      · exact minP_min ys x q (.inl h)
      · rcases List.mem_cons.mp h with e2 | e2
        · rw [e2]
          rcases lx_tri x y with t | t | t
          · rcases hx with hx | hx
            · rw [← hx]; exact .inr t
            · exact .inr (lx_trans hx t)
          · rw [← t]; exact hx
          · exact absurd t h1
        · exact minP_min ys x q (.inr e2)
theorem minL_min {l : List PG.Pt} {q : PG.Pt} (h : q ∈ l) : q = PG.minL l ∨ lx (PG.minL l) q := by
  cases l with
  | nil => cases h
  | cons p l => exact minP_min l p q (List.mem_cons.mp h)
def maxLP (l : List PG.Pt) : PG.Pt := match l with
  | [] => (0, 0)
  | p :: ps => maxP p ps
theorem maxP_max : ∀ (xs : List PG.Pt) (x q : PG.Pt), q = x ∨ q ∈ xs → q = maxP x xs ∨ lx q (maxP x xs)
  | [], x, q, h => by
    rcases h with h | h
    · exact .inl h
    · cases h
  | y :: ys, x, q, h => by
    have e : maxP x (y :: ys) = maxP (if ltP x y = true then y else x) ys := rfl
    rw [e]
    split
    · rename_i h1
      have h1 : lx x y := (ltP_lx x y).mp h1
      have hy := maxP_max ys y y (.inl rfl)
      rcases h with h | h
      · rw [h]
        rcases hy with hy | hy
        · rw [← hy]; exact .inr h1
        · exact .inr (lx_trans h1 hy)
      · exact maxP_max ys y q (by rcases List.mem_cons.mp h with e | e; exact .inl e; exact .inr e)
    · rename_i h1
      have h1 : ¬ lx x y := fun z => h1 ((ltP_lx x y).mpr z)
      have hx := maxP_max ys x x (.inl rfl)
      rcases h with h | h
      · exact maxP_max ys x q (.inl h)
      · rcases List.mem_cons.mp h with e2 | e2
        · rw [e2]
          rcases lx_tri x y with t | t | t
          · exact absurd t h1
          · rw [← t]; exact hx
          · rcases hx with hx | hx
            · rw [← hx]; exact .inr t
            · exact .inr (lx_trans t hx)
        · exact maxP_max ys x q (.inr e2)
theorem maxP_mem (x : PG.Pt) (xs : List PG.Pt) : maxP x xs = x ∨ maxP x xs ∈ xs := by
  induction xs generalizing x with
  | nil => exact .inl rfl
  | cons y ys ih =>
    have e : maxP x (y :: ys) = maxP (if ltP x y = true then y else x) ys := rfl
    rw [e]
    split
    · rcases ih y with h | h
      · exact .inr (by rw [h]; exact List.mem_cons_self ..)
      · exact .inr (List.mem_cons_of_mem _ h)
    · rcases ih x with h | h
      · exact .inl h
      · exact .inr (List.mem_cons_of_mem _ h)
theorem maxLP_mem {l : List PG.Pt} (h : l ≠ []) : maxLP l ∈ l := by
  cases l with
  | nil => exact absurd rfl h
  | cons p l =>
    rcases maxP_mem p l with e | e
    · show maxP p l ∈ _; rw [e]; exact List.mem_cons_self ..
    · exact List.mem_cons_of_mem _ e
theorem maxLP_max {l : List PG.Pt} {q : PG.Pt} (h : q ∈ l) : q = maxLP l ∨ lx q (maxLP l) := by
  cases l with
  | nil => cases h
  | cons p l => exact maxP_max l p q (List.mem_cons.mp h)
theorem max_ps {d : D} {l : List PG.Pt} (hd : IsPs d l) (h0 : l ≠ []) : gMax [d] = .ok (pt (maxLP l)) := by
  cases l with
  | nil => exact absurd rfl h0
  | cons p l =>
    have h1 : maxL ((p :: l).map pt) = .ok (pt (maxLP (p :: l))) := by
      unfold maxL
      rw [asInts_pts, asPts_map]
      rfl
    rcases hd with e | e <;> subst e <;> exact h1
theorem lx_anti {a b : PG.Pt} (h1 : a = b ∨ lx b a) (h2 : b = a ∨ lx a b) : a = b := by
  rcases h1 with h | h
  · exact h
  · rcases h2 with h3 | h3
    · exact h3.symm
    · exact absurd (lx_trans h h3) lx_irr
/-- the hull of spots -/
structure Hull (l : List PG.Pt) : Prop where
  flat : (aroundL l).length < 3 → ∀ q ∈ l, turn (PG.minL l) (maxLP l) q = 0
  sub : ∀ q ∈ aroundL l, q ∈ l
  nd : 3 ≤ (aroundL l).length → (aroundL l).Nodup
  edge : 3 ≤ (aroundL l).length → ∀ i, i < (aroundL l).length → ∀ q ∈ l, 0 ≤ turn (at_ (aroundL l) i) (nx (aroundL l) (i + 1)) q
  turn : 3 ≤ (aroundL l).length → ∀ i, i < (aroundL l).length → 0 < PG.turn (at_ (aroundL l) i) (nx (aroundL l) (i + 1)) (nx (aroundL l) (i + 2))
  area : 3 ≤ (aroundL l).length → 0 < PG.area (aroundL l)
  min : 3 ≤ (aroundL l).length → at_ (aroundL l) 0 = PG.minL (aroundL l) ∧ at_ (aroundL l) 0 = PG.minL l
  ord : 3 ≤ (aroundL l).length → inOrder (aroundL l) = aroundL l
theorem hull {l : List PG.Pt} (h0 : l ≠ []) : Hull l := by
  have hf := psort_facts l
  obtain ⟨p0, hp0⟩ : ∃ p0, (psort l).head? = some p0 := by
    cases hs : psort l with
    | nil =>
      cases l with
      | nil => exact absurd rfl h0
      | cons p l => have := (hf.1 p).mpr (List.mem_cons_self ..); rw [hs] at this; cases this
    | cons z r => exact ⟨z, rfl⟩
  obtain ⟨pl, hpl⟩ : ∃ pl, (psort l).getLast? = some pl := by
    cases hs : psort l with
    | nil => rw [hs] at hp0; cases hp0
    | cons z r => exact ⟨_, List.getLast?_eq_some_getLast (List.cons_ne_nil z r)⟩
  obtain ⟨h1, h2⟩ := chains hf.2.2 hp0 hpl
  have m0 : p0 ∈ l := (hf.1 p0).mp (List.mem_of_head? hp0)
  have ml : pl ∈ l := (hf.1 pl).mp (List.mem_of_getLast? hpl)
  have hmin : ∀ q ∈ l, q = p0 ∨ lx p0 q := fun q hq => by
    have hq := (hf.1 q).mpr hq
    have hs := hf.2.2
    generalize psort l = s at *
    cases s with
    | nil => cases hp0
    | cons z s =>
      cases hp0
      rcases List.mem_cons.mp hq with e | e
      · exact .inl e
      · exact .inr ((List.pairwise_cons.mp hs).1 q e)
  have hmax : ∀ q ∈ l, q = pl ∨ lx q pl := fun q hq => by
    have hq := (hf.1 q).mpr hq
    have hs := hf.2.2
    obtain ⟨t, ht⟩ := List.getLast?_eq_some_iff.mp hpl
    rw [ht] at hq hs
    rcases List.mem_append.mp hq with e | e
    · exact .inr ((List.pairwise_append.mp hs).2.2 q e pl (List.mem_singleton.mpr rfl))
    · exact .inl (List.mem_singleton.mp e)
  have emin : PG.minL l = p0 := lx_anti (hmin _ (minL_mem h0)) (minL_min m0)
  have emax : maxLP l = pl := lx_anti ((maxLP_max ml).imp Eq.symm id) ((hmax _ (maxLP_mem h0)).imp Eq.symm id)
  have hsub := ring_sub h1 h2
  by_cases hne : p0 = pl
  · -- one spot alone
    have one : ∀ q ∈ l, q = p0 := fun q hq => lx_anti (hmin q hq) (by rw [hne]; rcases hmax q hq with e | e; exact .inl e.symm; exact .inr e)
    have len1 : ∀ {R : PG.Pt → PG.Pt → Prop} {c : List PG.Pt} {a b : PG.Pt}, (∀ x, ¬ R x x) → Ch R c (psort l) a b → c.length = 1 := fun {R c a b} hR h => by
      have hp := h.pos
      by_cases hc : c.length = 1
      · exact hc
      · exfalso
        have o := h.o 0 1 (by omega) (by omega)
        rw [one _ ((hf.1 _).mp (h.sub _ (at_mem (show 0 < c.length by omega)))), one _ ((hf.1 _).mp (h.sub _ (at_mem (show 1 < c.length by omega))))] at o
        exact hR _ o
    have hlen : (aroundL l).length = 0 := by
      unfold aroundL
      rw [ring_len, len1 (fun x => lx_irr) h1, len1 (R := fun a b => lx b a) (fun x => lx_irr) h2]
    have no : ¬ 3 ≤ (aroundL l).length := by omega
    exact ⟨fun _ q hq => by rw [emin, emax, ← hne, one q hq]; unfold PG.turn; grind, fun q hq => (hf.1 q).mp (hsub q hq), fun h => absurd h no, fun h => absurd h no, fun h => absurd h no, fun h => absurd h no, fun h => absurd h no, fun h => absurd h no⟩
  · have k1 : 2 ≤ (chain (psort l)).length := by
      have hp := h1.pos
      by_cases hc : (chain (psort l)).length = 1
      · have := h1.lst
        rw [hc, h1.fst] at this
        exact absurd this hne
      · omega
    have k2 : 2 ≤ (chain (psort l).reverse).length := by
      have hp := h2.pos
      by_cases hc : (chain (psort l).reverse).length = 1
      · have := h2.lst
        rw [hc, h2.fst] at this
        exact absurd this.symm hne
      · omega
    have edge : ∀ i, i < (aroundL l).length → ∀ q ∈ l, 0 ≤ PG.turn (at_ (aroundL l) i) (nx (aroundL l) (i + 1)) q := fun i hi q hq => ring_edge h1 h2 k1 k2 hi q ((hf.1 q).mpr hq)
    have sub : ∀ q ∈ aroundL l, q ∈ l := fun q hq => (hf.1 q).mp (hsub q hq)
    have tu : 3 ≤ (aroundL l).length → ∀ i, i < (aroundL l).length → 0 < PG.turn (at_ (aroundL l) i) (nx (aroundL l) (i + 1)) (nx (aroundL l) (i + 2)) := fun hn i hi => ring_turn h1 h2 k1 k2 hn hi
    have ar : 3 ≤ (aroundL l).length → 0 < PG.area (aroundL l) := fun hn => area_pos _ hn (fun i hi q hq => edge i hi q (sub q hq)) (tu hn)
    have a0 : at_ (aroundL l) 0 = p0 := by
      unfold aroundL
      rw [ring_at1 (by omega), h1.fst]
    have mn : 3 ≤ (aroundL l).length → at_ (aroundL l) 0 = PG.minL (aroundL l) ∧ at_ (aroundL l) 0 = PG.minL l := fun hn => by
      have hr : aroundL l ≠ [] := fun e => by rw [e] at hn; simp at hn
      have hm : p0 ∈ aroundL l := by rw [← a0]; exact at_mem (by omega)
      exact ⟨by rw [a0]; exact (lx_anti (hmin _ (sub _ (minL_mem hr))) (minL_min hm)).symm, by rw [a0, emin]⟩
    refine ⟨fun h3 q hq => ?_, sub, fun _ => ring_nodup h1 h2 k1 k2, fun _ => edge, tu, ar, mn, fun hn => ?_⟩
    · have hl : (aroundL l).length = ((chain (psort l)).length - 1) + ((chain (psort l).reverse).length - 1) := ring_len _ _
      have e1 := h1.e 0 (by omega) q ((hf.1 q).mpr hq)
      have e2 := h2.e 0 (by omega) q ((hf.1 q).mpr hq)
      have l1 := h1.lst
      have l2 := h2.lst
      rw [show (chain (psort l)).length - 1 = 0 + 1 by omega] at l1
      rw [show (chain (psort l).reverse).length - 1 = 0 + 1 by omega] at l2
      rw [h1.fst, l1] at e1
      rw [h2.fst, l2] at e2
      rw [emin, emax]
      have : PG.turn pl p0 q = - PG.turn p0 pl q := by unfold PG.turn; grind
      omega
    · have h4 := ar hn
      unfold inOrder
      have eo : orient (aroundL l) = aroundL l := by unfold orient; rw [if_neg (by omega)]
      rw [eo, ← (mn hn).1]
      have : (aroundL l).idxOf (at_ (aroundL l) 0) = 0 := by
        cases hr : aroundL l with
        | nil => rw [hr] at hn; simp at hn
        | cons z r => show (z :: r).idxOf z = 0; simp
      rw [this]
      unfold rot
      simp
theorem minI_pos : ∀ (xs : List Int) (x : Int), 0 < x → (∀ y ∈ xs, 0 < y) → 0 < minI x xs
  | [], x, h, _ => h
  | y :: ys, x, h, h2 => by
    have e : minI x (y :: ys) = minI (if y < x then y else x) ys := rfl
    rw [e]
    refine minI_pos ys _ ?_ fun z hz => h2 z (List.mem_cons_of_mem _ hz)
    split
    · exact h2 y (List.mem_cons_self ..)
    · exact h
theorem min_ints_pos {ns : List Int} (h0 : ns ≠ []) (h : ∀ y ∈ ns, 0 < y) : ∃ m, gMin [intsD ns] = .ok (.int m) ∧ 0 < m := by
  cases ns with
  | nil => exact absurd rfl h0
  | cons n ns =>
    refine ⟨minI n ns, ?_, minI_pos ns n (h n (List.mem_cons_self ..)) fun y hy => h y (List.mem_cons_of_mem _ hy)⟩
    show minL ((n :: ns).map .int) = _
    unfold minL
    rw [asInts_map]
theorem no_filter {Y : Type} {p : Y → Bool} {g : Y → D} {xs : List Y} (h : ∀ x ∈ xs, p x = false) : (.list ((xs.filter p).map g) : D) = .list [] := by
  rw [List.filter_eq_nil_iff.mpr fun x hx => by rw [h x hx]; exact Bool.false_ne_true]
  rfl
theorem nil_ne : gNe (.list []) (.list []) = .ok (.bool false) := rfl
theorem nil_eq : gEq (.list []) (.list []) = .ok (.bool true) := rfl
end PL

set_option Elab.async false
set_option linter.all false
set_option maxRecDepth 100000
set_option maxHeartbeats 1000000
/-! PN1: the two readings of is_spot, is_plot. -/
namespace PL
open PySem L2 PG
def partB : D → Bool
  | .int x => decide (-100 ≤ x) && decide (x ≤ 100)
  | _ => false
def spotB : D → Bool
  | .tuple [a, b] => partB a && partB b
  | _ => false
def partE (v : Nat) : CE := (cAnd (c1 (gIsi "int") (cVar v)) (cAnd (cNot (c1 (gIsi "bool") (cVar v))) (cChain gLe gLe (c1 gNeg (cC (.int 100))) (cVar v) (cC (.int 100)))))
theorem chain_le (i j k : Int) : ∀ {a b c : CE} {ρ : Env}, a ρ = .ok (.int i) → b ρ = .ok (.int j) → c ρ = .ok (.int k) → cChain gLe gLe a b c ρ = .ok (.bool (decide (i ≤ j) && decide (j ≤ k))) := by
  intro a b c ρ h1 h2 h3
  unfold cChain
  rw [h1, bok, h2, bok, gLe_int, bok, h3, bok, gLe_int, and_b]
theorem partE_ok (v : Nat) (d : D) (ρ : Env) (h : (cVar v) ρ = .ok d) : partE v ρ = .ok (.bool (partB d)) := by
  unfold partE cAnd cNot c1
  rw [h]
  cases d with
  | int x =>
    show (R.ok (PyData.bool true)).bind _ = _
    rw [bok, and_t]
    show (R.bind (R.ok (PyData.bool true)) _) = _
    rw [bok, and_t]
    exact chain_le (-100) x 100 rfl h rfl
  | bool b => rfl
  | _ => rfl
theorem e_p_spot (d : D) : m_p_is_spot [d] = .ok (.bool (spotB d)) := by
  cases d with
  | tuple ds =>
    unfold m_p_is_spot b_p_is_spot
    rw [runP_eq, sSeq_eq, sIf_eq]
    have hc : cOr (cNot (c1 (gIsi "tuple") (cVar 0))) (c2 gNe (cA gLen (aCons (cVar 0) aNil)) (cC (.int 2))) (fE (iniS 2 [.tuple ds])) = .ok (.bool (!decide ((ds.length : Int) = 2))) := by
      unfold cOr
      rw [show cNot (c1 (gIsi "tuple") (cVar 0)) (fE (iniS 2 [.tuple ds])) = .ok (.bool false) from rfl, bok, or_f]
      exact c2_is (fn1 rfl (len_tuple ds)) rfl (gNe_int _ _)
    rw [hc, brB_ok]
    by_cases h2 : ds.length = 2
    · rw [if_neg (by rw [decide_eq_true (by omega)]; decide)]
      match ds, h2 with
      | [a, b], _ =>
        have hl := cLc_map (cs := cSrc (cVar 0)) (vs := [1]) (t := tName 1) (elt := partE 1) (ρ := fE [.val (.tuple [a, b]), .non]) (fun (z : D) => z) (xs := [a, b]) (fun z => .bool (partB z)) (src1 (d := .tuple [a, b]) rfl rfl) (by show 2 ≤ sizeLine; decide) (by
          intro z hz
          exact ⟨_, rfl, partE_ok 1 z _ rfl⟩)
        have ha : gAll [.list [.bool (partB a), .bool (partB b)]] = .ok (.bool (partB a && partB b)) := by
          cases partB a <;> cases partB b <;> rfl
        show unr (sq (.nx [.val (.tuple [a, b]), .non]) _) = _
        rw [sq_nx]
        unfold partE at hl
        rw [sRet_ok (fn1 hl ha), unr_rt]
        rfl
    · rw [if_pos (by rw [decide_eq_false (by omega)]; rfl)]
      show R.ok (PyData.bool false) = _
      match ds, h2 with
      | [], _ => rfl
      | [_], _ => rfl
      | [_, _], h => exact absurd rfl h
      | _ :: _ :: _ :: _, _ => rfl
  | _ => rfl
theorem e_l_number (d : D) (i j : Int) (hi : i = -100) (hj : j = 100) : m_l_number [d, .int i, .int j] = .ok (.bool (partB d)) := by
  subst hi hj
  cases d with
  | int x =>
    unfold m_l_number b_l_number
    rw [runP_eq]
    refine congrArg unr (sRet_ok (d := .bool (partB (.int x))) ?_) |>.trans rfl
    unfold cAnd cNot c1
    show (R.ok (PyData.bool true)).bind _ = _
    rw [bok, and_t]
    show (R.bind (R.ok (PyData.bool true)) _) = _
    rw [bok, and_t]
    exact chain_le (-100) x 100 rfl rfl rfl
  | _ => rfl
theorem e_l_spot (d : D) : m_l_is_spot [d] = .ok (.bool (spotB d)) := by
  cases d with
  | tuple ds =>
    unfold m_l_is_spot b_l_is_spot
    rw [runP_eq, sSeq_eq, sIf_eq]
    have hc : cOr (cNot (c1 (gIsi "tuple") (cVar 0))) (c2 gNe (cA gLen (aCons (cVar 0) aNil)) (cC (.int 2))) (fE (iniS 1 [.tuple ds])) = .ok (.bool (!decide ((ds.length : Int) = 2))) := by
      unfold cOr
      rw [show cNot (c1 (gIsi "tuple") (cVar 0)) (fE (iniS 1 [.tuple ds])) = .ok (.bool false) from rfl, bok, or_f]
      exact c2_is (fn1 rfl (len_tuple ds)) rfl (gNe_int _ _)
    rw [hc, brB_ok]
    by_cases h2 : ds.length = 2
    · rw [if_neg (by rw [decide_eq_true (by omega)]; decide)]
      match ds, h2 with
      | [a, b], _ =>
        show unr (sq (.nx [.val (.tuple [a, b])]) _) = _
        rw [sq_nx]
        refine congrArg unr (sRet_ok (d := .bool (partB a && partB b)) ?_) |>.trans rfl
        unfold cAnd
        rw [call3 (x := a) (y := .int (-100)) (z := .int 100) (c2_is rfl rfl rfl) rfl rfl (e_l_number a _ _ rfl rfl), bok, call3 (x := b) (y := .int (-100)) (z := .int 100) (c2_is rfl rfl rfl) rfl rfl (e_l_number b _ _ rfl rfl), and_b]
    · rw [if_pos (by rw [decide_eq_false (by omega)]; rfl)]
      show R.ok (PyData.bool false) = _
      match ds, h2 with
      | [], _ => rfl
      | [_], _ => rfl
      | [_, _], h => exact absurd rfl h
      | _ :: _ :: _ :: _, _ => rfl
  | _ => rfl
/-! ### sides that meet -/
def sgn (a : Int) : Int := (if 0 < a then 1 else 0) - (if a < 0 then 1 else 0)
theorem sgn_neg (a b : Int) : (sgn a * sgn b < 0) ↔ (a * b < 0) := by
  unfold sgn
  rcases Int.lt_trichotomy a 0 with h1 | h1 | h1 <;> rcases Int.lt_trichotomy b 0 with h2 | h2 | h2
  · have := Int.mul_pos_of_neg_of_neg h1 h2
    rw [if_neg (by omega), if_pos h1, if_neg (by omega), if_pos h2]; omega
  · subst h2; rw [Int.mul_zero]; simp
  · have := Int.mul_neg_of_neg_of_pos h1 h2
    rw [if_neg (by omega), if_pos h1, if_pos h2, if_neg (by omega)]; omega
  · subst h1; rw [Int.zero_mul]; simp
  · subst h1; rw [Int.zero_mul]; simp
  · subst h1; rw [Int.zero_mul]; simp
  · have := Int.mul_neg_of_pos_of_neg h1 h2
    rw [if_pos h1, if_neg (by omega), if_neg (by omega), if_pos h2]; omega
  · subst h2; rw [Int.mul_zero]; simp
  · have := Int.mul_pos h1 h2
    rw [if_pos h1, if_neg (by omega), if_pos h2, if_neg (by omega)]; omega
theorem e_sign (a : Int) : m_p_sign [.int a] = .ok (.int (sgn a)) := by
  unfold m_p_sign b_p_sign sgn
  rw [runP_eq]
  refine congrArg unr (sRet_ok (d := .int _) (c2_is (fn1 (c2_is rfl rfl (gGt_int a 0)) (d := .int (if 0 < a then 1 else 0)) ?_) (fn1 (c2_is rfl rfl (gLt_int a 0)) (d := .int (if a < 0 then 1 else 0)) ?_) (gSub_int _ _))) |>.trans rfl
  · by_cases h : 0 < a
    · rw [decide_eq_true h, if_pos h]; rfl
    · rw [decide_eq_false h, if_neg h]; rfl
  · by_cases h : a < 0
    · rw [decide_eq_true h, if_pos h]; rfl
    · rw [decide_eq_false h, if_neg h]; rfl
theorem sgn_bd (a : Int) : -(2^60) ≤ sgn a ∧ sgn a ≤ 2^60 := by unfold sgn; split <;> split <;> omega
theorem e_p_meet {a b c d : PG.Pt} (ha : Bd 1000000 a) (hb : Bd 1000000 b) (hc : Bd 1000000 c) (hd : Bd 1000000 d) : m_p_meet [sideD a b, sideD c d] = .ok (.bool (meetL a b c d)) := by
  have h1 := e_p_on ha hb hc
  have h2 := e_p_on ha hb hd
  have h3 := e_p_on hc hd ha
  have h4 := e_p_on hc hd hb
  have t1 := e_p_turn ha hb hc
  have t2 := e_p_turn ha hb hd
  have t3 := e_p_turn hc hd ha
  have t4 := e_p_turn hc hd hb
  unfold m_p_meet b_p_meet
  rw [runP_eq, sSeq_eq, show sAsg2 2 3 (cVar 0) (iniS 7 [sideD a b, sideD c d]) = .nx [.val (sideD a b), .val (sideD c d), .val (pt a), .val (pt b), .non, .non, .non] from rfl, sq_nx, sSeq_eq, show sAsg2 4 5 (cVar 1) [.val (sideD a b), .val (sideD c d), .val (pt a), .val (pt b), .non, .non, .non] = .nx [.val (sideD a b), .val (sideD c d), .val (pt a), .val (pt b), .val (pt c), .val (pt d), .non] from rfl, sq_nx, sSeq_eq, sIf_eq]
  have hor : cOr (cA (pureS m_p_lies_on) (aCons (cVar 2) (aCons (cVar 3) (aCons (cVar 4) aNil)))) (cOr (cA (pureS m_p_lies_on) (aCons (cVar 2) (aCons (cVar 3) (aCons (cVar 5) aNil)))) (cOr (cA (pureS m_p_lies_on) (aCons (cVar 4) (aCons (cVar 5) (aCons (cVar 2) aNil)))) (cA (pureS m_p_lies_on) (aCons (cVar 4) (aCons (cVar 5) (aCons (cVar 3) aNil)))))) (fE [.val (sideD a b), .val (sideD c d), .val (pt a), .val (pt b), .val (pt c), .val (pt d), .non]) = .ok (.bool (onB a b c || (onB a b d || (onB c d a || onB c d b)))) := by
    unfold cOr
    rw [call3 rfl rfl rfl h1, bok, call3 rfl rfl rfl h2, bok, call3 rfl rfl rfl h3, bok, call3 rfl rfl rfl h4, or_b, or_b, or_b]
  rw [hor, brB_ok]
  have x1 := gMul_int (mulB (j := sgn (PG.turn a b d)) (sgn_bd (PG.turn a b c)).1 (sgn_bd (PG.turn a b c)).2)
  have x2 := gMul_int (mulB (j := sgn (PG.turn c d b)) (sgn_bd (PG.turn c d a)).1 (sgn_bd (PG.turn c d a)).2)
  unfold meetL
  cases ho : (onB a b c || (onB a b d || (onB c d a || onB c d b))) with
  | true =>
    rw [if_pos rfl]
    rw [show (onB a b c || onB a b d || onB c d a || onB c d b) = true by rw [← ho]; cases onB a b c <;> cases onB a b d <;> cases onB c d a <;> rfl]
    rfl
  | false =>
    rw [if_neg Bool.false_ne_true]
    rw [show (onB a b c || onB a b d || onB c d a || onB c d b) = false by rw [← ho]; cases onB a b c <;> cases onB a b d <;> cases onB c d a <;> rfl, Bool.false_or]
    show unr (sq (.nx [.val (sideD a b), .val (sideD c d), .val (pt a), .val (pt b), .val (pt c), .val (pt d), .non]) _) = _
    rw [sq_nx, sSeq_eq, sAsg_ok (c2_is (c2_is (call1 (call3 rfl rfl rfl t1) (e_sign _)) (call1 (call3 rfl rfl rfl t2) (e_sign _)) x1) rfl (gLt_int _ _)), sq_nx]
    refine congrArg unr (sRet_ok (d := .bool _) ?_) |>.trans rfl
    unfold cAnd
    rw [show (cVar 6) (fE ([.val (sideD a b), .val (sideD c d), .val (pt a), .val (pt b), .val (pt c), .val (pt d), Sl.non].set 6 (.val (.bool (decide (sgn (PG.turn a b c) * sgn (PG.turn a b d) < 0)))))) = .ok (.bool (decide (sgn (PG.turn a b c) * sgn (PG.turn a b d) < 0))) from rfl, bok]
    rw [c2_is (c2_is (call1 (call3 rfl rfl rfl t3) (e_sign _)) (call1 (call3 rfl rfl rfl t4) (e_sign _)) x2) rfl (gLt_int _ _), and_b]
    congr 3
    · rw [decide_eq_decide.mpr (sgn_neg _ _)]
      by_cases h : PG.turn a b c * PG.turn a b d < 0
      · rw [decide_eq_true h, decide_eq_false (by omega)]; rfl
      · rw [decide_eq_false h, decide_eq_true (by omega)]; rfl
    · exact decide_eq_decide.mpr (sgn_neg _ _)
end PL

set_option linter.all false
set_option maxHeartbeats 1000000
/-! GA: points, segments, where they meet. -/
namespace GE
open PG (Pt turn onB min2 max2)
theorem neg_of_mul {a b : Int} (h : a * b < 0) : (a < 0 ∧ 0 < b) ∨ (0 < a ∧ b < 0) := by
  rcases Int.lt_trichotomy a 0 with ha | ha | ha
  · refine Or.inl ⟨ha, ?_⟩
    rcases Int.lt_trichotomy b 0 with hb | hb | hb
    · have := Int.mul_pos_of_neg_of_neg ha hb; omega
    · subst hb; omega
    · exact hb
  · subst ha; omega
  · refine Or.inr ⟨ha, ?_⟩
    rcases Int.lt_trichotomy b 0 with hb | hb | hb
    · exact hb
    · subst hb; omega
    · have := Int.mul_pos ha hb; omega
theorem mul_nonneg' {a b : Int} (ha : 0 ≤ a) (hb : 0 ≤ b) : 0 ≤ a * b := Int.mul_nonneg ha hb
theorem pn {a b : Int} (ha : 0 < a) (hb : b < 0) : a * b < 0 := Int.mul_neg_of_pos_of_neg ha hb
theorem pn' {a b : Int} (ha : 0 ≤ a) (hb : b ≤ 0) : a * b ≤ 0 := Int.mul_nonpos_of_nonneg_of_nonpos ha hb
theorem nn {a b : Int} (ha : a < 0) (hb : b < 0) : 0 < a * b := Int.mul_pos_of_neg_of_neg ha hb
theorem nn' {a b : Int} (ha : a ≤ 0) (hb : b ≤ 0) : 0 ≤ a * b := Int.mul_nonneg_of_nonpos_of_nonpos ha hb
theorem sgn_pos {a b : Int} (ha : 0 < a) (h : 0 < a * b) : 0 < b := by
  by_cases hb : 0 < b
  · exact hb
  · have := pn' (Int.le_of_lt ha) (Int.not_lt.mp hb); omega
theorem sgn_neg {a b : Int} (ha : 0 < a) (h : a * b < 0) : b < 0 := by
  by_cases hb : b < 0
  · exact hb
  · have := Int.mul_nonneg (Int.le_of_lt ha) (Int.not_lt.mp hb); omega
theorem sgn_nn {a b : Int} (ha : 0 < a) (h : 0 ≤ a * b) : 0 ≤ b := by
  by_cases hb : 0 ≤ b
  · exact hb
  · have := pn ha (Int.not_le.mp hb); omega
theorem sgn_np {a b : Int} (ha : 0 < a) (h : a * b ≤ 0) : b ≤ 0 := by
  by_cases hb : b ≤ 0
  · exact hb
  · have := Int.mul_pos ha (Int.not_le.mp hb); omega
theorem sgn_z {a b : Int} (ha : 0 < a) (h : a * b = 0) : b = 0 := by
  rcases Int.mul_eq_zero.mp h with h | h
  · omega
  · exact h
theorem sq_nn (a : Int) : 0 ≤ a * a := by
  rcases Int.le_total 0 a with h | h
  · exact Int.mul_nonneg h h
  · exact nn' h h
theorem sq_pos {a : Int} (h : a ≠ 0) : 0 < a * a := by
  rcases Int.lt_or_gt_of_ne h with h | h
  · exact nn h h
  · exact Int.mul_pos h h
theorem opp {l m x y : Int} (hl : 0 < l) (hm : 0 < m) (h : l * x + m * y = 0) (hx : x ≠ 0) : x * y < 0 := by
  apply sgn_neg hm
  have h1 := Int.mul_pos hl (sq_pos hx)
  have h2 : m * (x * y) = x * (l * x + m * y) - l * (x * x) := by grind
  rw [h2, h]; omega
/-- the product of the ways from a point to two -/
def dt (a b c : Pt) : Int := (a.1 - c.1) * (b.1 - c.1) + (a.2 - c.2) * (b.2 - c.2)
def On (a b c : Pt) : Prop := turn a b c = 0 ∧ dt a b c ≤ 0
theorem btw {x y z : Int} (h : (x - z) * (y - z) ≤ 0) : (x ≤ z ∧ z ≤ y) ∨ (y ≤ z ∧ z ≤ x) := by
  rcases Int.lt_trichotomy (x - z) 0 with hx | hx | hx
  · rcases Int.lt_or_le (y - z) 0 with hy | hy
    · have := nn hx hy; omega
    · omega
  · omega
  · rcases Int.lt_or_le 0 (y - z) with hy | hy
    · have := Int.mul_pos hx hy; omega
    · omega
theorem btw_le {x y z : Int} (h : (x ≤ z ∧ z ≤ y) ∨ (y ≤ z ∧ z ≤ x)) : (x - z) * (y - z) ≤ 0 := by
  rcases h with ⟨h1, h2⟩ | ⟨h1, h2⟩
  · have := pn' (show 0 ≤ y - z by omega) (show x - z ≤ 0 by omega)
    rw [Int.mul_comm] at this; exact this
  · exact pn' (by omega) (by omega)
theorem par_np {p q r s : Int} (h : p * s = q * r) (hd : p * r + q * s ≤ 0) : p * r ≤ 0 ∧ q * s ≤ 0 := by
  have h1 : (p * r) * (q * s) = (p * s) * (p * s) := by grind
  have h2 := sq_nn (p * s)
  rw [← h1] at h2
  constructor
  · by_cases h3 : p * r ≤ 0
    · exact h3
    · have := pn (show 0 < p * r by omega) (show q * s < 0 by omega); omega
  · by_cases h3 : q * s ≤ 0
    · exact h3
    · have := pn (show 0 < q * s by omega) (show p * r < 0 by omega)
      rw [Int.mul_comm] at this; omega
theorem On.box {a b c : Pt} (h : On a b c) : ((a.1 ≤ c.1 ∧ c.1 ≤ b.1) ∨ (b.1 ≤ c.1 ∧ c.1 ≤ a.1)) ∧ ((a.2 ≤ c.2 ∧ c.2 ≤ b.2) ∨ (b.2 ≤ c.2 ∧ c.2 ≤ a.2)) := by
  obtain ⟨h1, h2⟩ := h
  unfold turn at h1; unfold dt at h2
  have := par_np (p := a.1 - c.1) (q := a.2 - c.2) (r := b.1 - c.1) (s := b.2 - c.2) (by grind) h2
  exact ⟨btw this.1, btw this.2⟩
theorem On_iff (a b c : Pt) : onB a b c = true ↔ On a b c := by
  constructor
  · intro h
    unfold onB at h
    simp only [Bool.and_eq_true, decide_eq_true_eq] at h
    obtain ⟨⟨h0, h1, h2⟩, h3, h4⟩ := h
    refine ⟨h0, ?_⟩
    unfold min2 at h1 h3; unfold max2 at h2 h4
    have e1 := btw_le (x := a.1) (y := b.1) (z := c.1) (by split at h1 <;> split at h2 <;> omega)
    have e2 := btw_le (x := a.2) (y := b.2) (z := c.2) (by split at h3 <;> split at h4 <;> omega)
    unfold dt; omega
  · intro h
    obtain ⟨h1, h2⟩ := h.box
    unfold onB
    simp only [Bool.and_eq_true, decide_eq_true_eq]
    refine ⟨⟨h.1, ?_, ?_⟩, ?_, ?_⟩ <;> (try unfold min2) <;> (try unfold max2) <;> split <;> omega
theorem On_l (a b : Pt) : On a b a := by unfold On turn dt; constructor <;> grind
theorem On_r (a b : Pt) : On a b b := by unfold On turn dt; constructor <;> grind
theorem On.comm {a b c : Pt} (h : On a b c) : On b a c := by
  obtain ⟨h1, h2⟩ := h
  unfold On turn dt at *
  constructor <;> grind
theorem On_eq {a c : Pt} (h : On a a c) : c = a := by
  obtain ⟨h1, h2⟩ := h.box
  exact Prod.ext (by omega) (by omega)
/-- weights at which two segments have a point in common -/
def Wt (a b s t : Pt) (α β l m : Int) : Prop := 0 ≤ α ∧ 0 ≤ β ∧ 0 ≤ l ∧ 0 ≤ m ∧ 0 < α + β ∧ α + β = l + m ∧
  α * a.1 + β * b.1 = l * s.1 + m * t.1 ∧ α * a.2 + β * b.2 = l * s.2 + m * t.2
def Mt (a b s t : Pt) : Prop := ∃ α β l m : Int, Wt a b s t α β l m
theorem Wt.turn {a b s t : Pt} {α β l m : Int} (h : Wt a b s t α β l m) (p q : Pt) :
    α * turn p q a + β * turn p q b = l * turn p q s + m * turn p q t := by
  obtain ⟨_, _, _, _, _, h1, h2, h3⟩ := h
  unfold PG.turn
  grind
theorem Mt.symm {a b s t : Pt} (h : Mt a b s t) : Mt s t a b := by
  obtain ⟨α, β, l, m, h1, h2, h3, h4, h5, h6, h7, h8⟩ := h
  exact ⟨l, m, α, β, h3, h4, h1, h2, by omega, by omega, h7.symm, h8.symm⟩
theorem Mt.swap {a b s t : Pt} (h : Mt a b s t) : Mt b a s t := by
  obtain ⟨α, β, l, m, h1, h2, h3, h4, h5, h6, h7, h8⟩ := h
  exact ⟨β, α, l, m, h2, h1, h3, h4, by omega, by omega, by omega, by omega⟩
theorem Mt.swap' {a b s t : Pt} (h : Mt a b s t) : Mt a b t s := h.symm.swap.symm
theorem turn_sum (a b s t : Pt) : turn s t b - turn s t a = turn a b s - turn a b t := by unfold turn; grind
theorem turn_v1 (a b s t : Pt) : turn s t b * a.1 - turn s t a * b.1 + turn a b t * s.1 - turn a b s * t.1 = 0 := by unfold turn; grind
theorem turn_v2 (a b s t : Pt) : turn s t b * a.2 - turn s t a * b.2 + turn a b t * s.2 - turn a b s * t.2 = 0 := by unfold turn; grind
theorem Mt_sg {a b s t : Pt} (h1 : turn s t a ≤ 0) (h2 : 0 ≤ turn s t b) (h3 : turn a b t ≤ 0) (h4 : 0 ≤ turn a b s)
    (h5 : turn s t a < turn s t b) : Mt a b s t := by
  have e0 := turn_sum a b s t
  have e1 := turn_v1 a b s t
  have e2 := turn_v2 a b s t
  exact ⟨turn s t b, - turn s t a, - turn a b t, turn a b s, h2, by omega, by omega, h4, by omega, by omega, by grind, by grind⟩
/-- a point on a segment, by weights -/
theorem On.wt {a b c : Pt} (h : On a b c) (hn : a ≠ b) : ∃ α β : Int, 0 ≤ α ∧ 0 ≤ β ∧ 0 < α + β ∧ α * a.1 + β * b.1 = (α + β) * c.1 ∧ α * a.2 + β * b.2 = (α + β) * c.2 := by
  obtain ⟨h1, h2⟩ := h
  refine ⟨dt c a b, dt c b a, ?_, ?_, ?_, ?_, ?_⟩
  · have e1 := sq_nn (b.1 - c.1); have e2 := sq_nn (b.2 - c.2)
    unfold dt at *; grind
  · have e1 := sq_nn (a.1 - c.1); have e2 := sq_nn (a.2 - c.2)
    unfold dt at *; grind
  · have e : dt c a b + dt c b a = (a.1 - b.1) * (a.1 - b.1) + (a.2 - b.2) * (a.2 - b.2) := by unfold dt; grind
    rw [e]
    have e1 := sq_nn (a.1 - b.1); have e2 := sq_nn (a.2 - b.2)
    by_cases hx : a.1 = b.1
    · have : a.2 ≠ b.2 := fun hy => hn (Prod.ext hx hy)
      have := sq_pos (show a.2 - b.2 ≠ 0 by omega)
      omega
    · have := sq_pos (show a.1 - b.1 ≠ 0 by omega)
      omega
  · unfold turn at h1; unfold dt; grind
  · unfold turn at h1; unfold dt; grind
theorem On_of_wt {a b c : Pt} {α β : Int} (ha : 0 ≤ α) (hb : 0 ≤ β) (hs : 0 < α + β) (h1 : α * a.1 + β * b.1 = (α + β) * c.1) (h2 : α * a.2 + β * b.2 = (α + β) * c.2) : On a b c := by
  constructor
  · apply sgn_z hs
    unfold turn; grind
  · apply sgn_np hs
    apply sgn_np hs
    have e : (α + β) * ((α + β) * dt a b c) = - ((α * β) * ((a.1 - b.1) * (a.1 - b.1) + (a.2 - b.2) * (a.2 - b.2))) := by unfold dt; grind
    rw [e]
    have e1 := sq_nn (a.1 - b.1); have e2 := sq_nn (a.2 - b.2)
    have := Int.mul_nonneg (Int.mul_nonneg ha hb) (show 0 ≤ (a.1 - b.1) * (a.1 - b.1) + (a.2 - b.2) * (a.2 - b.2) by omega)
    omega
def Xs (a b s t : Pt) : Prop := turn a b s * turn a b t < 0 ∧ turn s t a * turn s t b < 0
/-- four points on a line -/
theorem line_on {a b s t : Pt} {α β l m : Int} (h : Wt a b s t α β l m) (hab : a ≠ b) (hst : s ≠ t) (h1 : turn a b s = 0) (h2 : turn a b t = 0) :
    On a b s ∨ On a b t ∨ On s t a := by
  -- if s and t lie beyond the same end, or beyond either end
  by_cases hs : On a b s
  · exact Or.inl hs
  by_cases ht : On a b t
  · exact Or.inr (Or.inl ht)
  refine Or.inr (Or.inr ?_)
  have hs' : 0 < dt a b s := by
    by_cases hd : 0 < dt a b s
    · exact hd
    · exact absurd ⟨h1, by omega⟩ hs
  have ht' : 0 < dt a b t := by
    by_cases hd : 0 < dt a b t
    · exact hd
    · exact absurd ⟨h2, by omega⟩ ht
  obtain ⟨p1, p2, p3, p4, p5, p6, p7, p8⟩ := h
  -- along the line: g
  have hN : 0 < (b.1 - a.1) * (b.1 - a.1) + (b.2 - a.2) * (b.2 - a.2) := by
    have e1 := sq_nn (b.1 - a.1); have e2 := sq_nn (b.2 - a.2)
    by_cases hx : a.1 = b.1
    · have : a.2 ≠ b.2 := fun hy => hab (Prod.ext hx hy)
      have := sq_pos (show b.2 - a.2 ≠ 0 by omega)
      omega
    · have := sq_pos (show b.1 - a.1 ≠ 0 by omega)
      omega
  generalize hNN : (b.1 - a.1) * (b.1 - a.1) + (b.2 - a.2) * (b.2 - a.2) = N at hN
  have id1 : ∀ q : Pt, dt b q a * (dt b q a - N) = N * dt a b q - turn a b q * turn a b q := by
    intro q; rw [← hNN]; unfold turn dt; grind
  have gs := id1 s
  have gt := id1 t
  rw [h1] at gs
  rw [h2] at gt
  have qs := Int.mul_pos hN hs'
  have qt := Int.mul_pos hN ht'
  have gw : l * dt b s a + m * dt b t a = β * N := by rw [← hNN]; unfold dt; grind
  have key : N * dt s t a = dt b s a * dt b t a + turn a b s * turn a b t := by rw [← hNN]; unfold turn dt; grind
  rw [h1, Int.zero_mul, Int.add_zero] at key
  generalize hG : dt b s a = G at gs gw key
  generalize hH : dt b t a = H at gt gw key
  have s1 : G < 0 ∨ N < G := by
    rcases Int.lt_or_le G 0 with h | h
    · exact Or.inl h
    · rcases Int.lt_or_le N G with h' | h'
      · exact Or.inr h'
      · have := pn' h (show G - N ≤ 0 by omega); omega
  have s2 : H < 0 ∨ N < H := by
    rcases Int.lt_or_le H 0 with h | h
    · exact Or.inl h
    · rcases Int.lt_or_le N H with h' | h'
      · exact Or.inr h'
      · have := pn' h (show H - N ≤ 0 by omega); omega
  refine ⟨?_, ?_⟩
  · apply sgn_z hN
    have : N * turn s t a = dt b s a * turn a b t - dt b t a * turn a b s := by rw [← hNN]; unfold turn dt; grind
    rw [this, h1, h2]; omega
  · apply sgn_np hN
    rw [key]
    have hb : 0 ≤ β * N := Int.mul_nonneg p2 (by omega)
    have ha : 0 ≤ α * N := Int.mul_nonneg p1 (by omega)
    have hsum : l * (G - N) + m * (H - N) = - (α * N) := by
      have e : (α + β) * N = (l + m) * N := by rw [p6]
      rw [Int.add_mul, Int.add_mul] at e
      rw [Int.mul_sub, Int.mul_sub]; omega
    rcases s1 with s1 | s1 <;> rcases s2 with s2 | s2
    · exfalso
      rcases Int.lt_or_le 0 l with hl | hl
      · have e1 := pn hl s1
        have e2 := pn' p4 (show H ≤ 0 by omega)
        omega
      · have e1 := pn (show 0 < m by omega) s2
        have e2 := pn' p3 (show G ≤ 0 by omega)
        omega
    · have := pn (show 0 < H by omega) s1
      rw [Int.mul_comm]; omega
    · exact Int.le_of_lt (pn (show 0 < G by omega) s2)
    · exfalso
      rcases Int.lt_or_le 0 l with hl | hl
      · have e1 := Int.mul_pos hl (show 0 < G - N by omega)
        have e2 := Int.mul_nonneg p4 (show 0 ≤ H - N by omega)
        omega
      · have e1 := Int.mul_pos (show 0 < m by omega) (show 0 < H - N by omega)
        have e2 := Int.mul_nonneg p3 (show 0 ≤ G - N by omega)
        omega
theorem Mt.dec {a b s t : Pt} (h : Mt a b s t) (hab : a ≠ b) (hst : s ≠ t) : On a b s ∨ On a b t ∨ On s t a ∨ On s t b ∨ Xs a b s t := by
  obtain ⟨α, β, l, m, w⟩ := h
  have t1 := w.turn a b
  have t2 := w.turn s t
  have z1 : turn a b a = 0 := (On_l a b).1
  have z2 : turn a b b = 0 := (On_r a b).1
  have z3 : turn s t s = 0 := (On_l s t).1
  have z4 : turn s t t = 0 := (On_r s t).1
  rw [z1, z2] at t1
  rw [z3, z4] at t2
  have w' := w
  obtain ⟨p1, p2, p3, p4, p5, p6, p7, p8⟩ := w
  rcases Int.lt_or_le 0 l with hl | hl
  · rcases Int.lt_or_le 0 m with hm | hm
    · rcases Int.lt_or_le 0 α with ha | ha
      · rcases Int.lt_or_le 0 β with hb | hb
        · by_cases hs : turn a b s = 0
          · have ht : turn a b t = 0 := by apply sgn_z hm; rw [hs] at t1; omega
            rcases line_on w' hab hst hs ht with h | h | h
            · exact Or.inl h
            · exact Or.inr (Or.inl h)
            · exact Or.inr (Or.inr (Or.inl h))
          · have e0 := turn_sum a b s t
            refine Or.inr (Or.inr (Or.inr (Or.inr ?_)))
            have x1 : turn a b s * turn a b t < 0 := opp hl hm (by omega) hs
            refine ⟨x1, ?_⟩
            have hA : turn s t a ≠ 0 := by
              intro hA
              have hB : turn s t b = 0 := by apply sgn_z hb; rw [hA] at t2; omega
              have : turn a b s = turn a b t := by omega
              rw [this] at x1
              have := sq_nn (turn a b t)
              omega
            exact opp ha hb (by omega) hA
        · -- the point is a
          have hb0 : β = 0 := by omega
          subst hb0
          refine Or.inr (Or.inr (Or.inl ?_))
          refine On_of_wt p3 p4 (by omega) ?_ ?_
          · rw [← p6]; simp only [Int.add_zero, Int.zero_add, Int.zero_mul] at *; omega
          · rw [← p6]; simp only [Int.add_zero, Int.zero_add, Int.zero_mul] at *; omega
      · have ha0 : α = 0 := by omega
        subst ha0
        refine Or.inr (Or.inr (Or.inr (Or.inl ?_)))
        refine On_of_wt p3 p4 (by omega) ?_ ?_
        · rw [← p6]; simp only [Int.add_zero, Int.zero_add, Int.zero_mul] at *; omega
        · rw [← p6]; simp only [Int.add_zero, Int.zero_add, Int.zero_mul] at *; omega
    · have hm0 : m = 0 := by omega
      subst hm0
      refine Or.inl (On_of_wt p1 p2 p5 ?_ ?_)
      · rw [p6]; simp only [Int.add_zero, Int.zero_add, Int.zero_mul] at *; omega
      · rw [p6]; simp only [Int.add_zero, Int.zero_add, Int.zero_mul] at *; omega
  · have hl0 : l = 0 := by omega
    subst hl0
    refine Or.inr (Or.inl (On_of_wt p1 p2 p5 ?_ ?_))
    · rw [p6]; simp only [Int.add_zero, Int.zero_add, Int.zero_mul] at *; omega
    · rw [p6]; simp only [Int.add_zero, Int.zero_add, Int.zero_mul] at *; omega
end GE

set_option linter.all false
set_option maxHeartbeats 1000000
/-! GB: a side's part in the winding; along a segment that does not meet it. -/
namespace GE
open PG (Pt turn onB)
def cr (a b q : Pt) : Int := if a.2 ≤ q.2 ∧ q.2 < b.2 ∧ 0 < turn a b q then 1 else if b.2 ≤ q.2 ∧ q.2 < a.2 ∧ turn a b q < 0 then -1 else 0
def ph (s t p : Pt) : Int := if s.2 < p.2 ∧ p.2 ≤ t.2 ∧ turn s t p < 0 then 1 else 0
def phi (s t p : Pt) : Int := if s.2 ≤ t.2 then ph s t p else - ph t s p
theorem turn_swap (a b q : Pt) : turn b a q = - turn a b q := by unfold turn; grind
theorem turn_rot (a b c : Pt) : turn b c a = turn a b c := by unfold turn; grind
theorem turn_swap' (a b q : Pt) : turn a q b = - turn a b q := by unfold turn; grind
theorem turn_aab (a b : Pt) : turn a a b = 0 := by unfold turn; grind
theorem turn_aba (a b : Pt) : turn a b a = 0 := by unfold turn; grind
theorem turn_abb (a b : Pt) : turn a b b = 0 := by unfold turn; grind
theorem cr_anti (a b q : Pt) : cr b a q = - cr a b q := by
  unfold cr
  rw [turn_swap a b q]
  split <;> split <;> (try split) <;> omega
theorem cr_up {a b : Pt} (h : a.2 ≤ b.2) (q : Pt) : cr a b q = if a.2 ≤ q.2 ∧ q.2 < b.2 ∧ 0 < turn a b q then 1 else 0 := by
  unfold cr
  split
  · rfl
  · rw [if_neg (by omega)]
theorem p1_num {a b s t A B S T : Int} (hab : a ≤ b) (hst : s ≤ t) (e0 : B - A = S - T) (e2 : B * a - A * b + T * s - S * t = 0)
    (n1 : ¬ (A ≤ 0 ∧ 0 ≤ B ∧ T ≤ 0 ∧ 0 ≤ S ∧ A < B)) (n2 : ¬ (B ≤ 0 ∧ 0 ≤ A ∧ S ≤ 0 ∧ 0 ≤ T ∧ B < A)) :
    ((if a ≤ s ∧ s < b ∧ 0 < S then (1 : Int) else 0) - (if a ≤ t ∧ t < b ∧ 0 < T then (1 : Int) else 0)) =
    ((if s < b ∧ b ≤ t ∧ B < 0 then (1 : Int) else 0) - (if s < a ∧ a ≤ t ∧ A < 0 then (1 : Int) else 0)) := by
  have hT : T = S - B + A := by omega
  have ra : S * (t - a) = T * (s - a) - A * (b - a) := by subst hT; grind
  have rb : T * (s - b) = S * (t - b) - B * (a - b) := by subst hT; grind
  have rs : S * (t - s) = B * (a - s) - A * (b - s) := by subst hT; grind
  have rt : T * (s - t) = A * (b - t) - B * (a - t) := by subst hT; grind
  clear e2
  by_cases c1 : a ≤ s
  · by_cases c2 : t < b
    · -- both between a and b
      have : (0 < S) ↔ (0 < T) := by
        constructor
        · intro h
          by_cases hT0 : 0 < T
          · exact hT0
          exfalso
          apply n1
          have q1 := Int.mul_nonneg (show 0 ≤ S by omega) (show 0 ≤ t - a by omega)
          have q2 := nn' (show T ≤ 0 by omega) (show s - b ≤ 0 by omega)
          have q3 := pn (show 0 < S by omega) (show t - b < 0 by omega)
          have q4 := pn' (show 0 ≤ s - a by omega) (show T ≤ 0 by omega)
          have q5 : 0 ≤ (b - a) * (- A) := by grind
          have q6 := sgn_nn (show 0 < b - a by omega) q5
          have q7 : 0 ≤ (b - a) * B := by grind
          have q8 := sgn_nn (show 0 < b - a by omega) q7
          omega
        · intro h
          by_cases hS0 : 0 < S
          · exact hS0
          exfalso
          apply n2
          have q1 := pn' (show 0 ≤ t - a by omega) (show S ≤ 0 by omega)
          have q2 := pn (show 0 < T by omega) (show s - b < 0 by omega)
          have q3 := nn' (show S ≤ 0 by omega) (show t - b ≤ 0 by omega)
          have q4 := Int.mul_nonneg (show 0 ≤ T by omega) (show 0 ≤ s - a by omega)
          have q5 : 0 ≤ (b - a) * A := by grind
          have q6 := sgn_nn (show 0 < b - a by omega) q5
          have q7 : 0 ≤ (b - a) * (- B) := by grind
          have q8 := sgn_nn (show 0 < b - a by omega) q7
          omega
      clear ra rb rs rt
      split <;> split <;> split <;> split <;> omega
    · by_cases c3 : s < b
      · have : (0 < S) ↔ (B < 0) := by
          constructor
          · intro h
            by_cases hB : B < 0
            · exact hB
            exfalso
            apply n1
            have q1 := Int.mul_nonneg (show 0 ≤ S by omega) (show 0 ≤ t - b by omega)
            have q2 := pn' (show 0 ≤ B by omega) (show a - b ≤ 0 by omega)
            have q3 := Int.mul_pos h (show 0 < t - s by omega)
            have q4 := pn' (show 0 ≤ B by omega) (show a - s ≤ 0 by omega)
            have q5 : 0 < (b - s) * (- A) := by grind
            have q6 := sgn_pos (show 0 < b - s by omega) q5
            have q7 : 0 ≤ (b - s) * (- T) := by grind
            have q8 := sgn_nn (show 0 < b - s by omega) q7
            omega
          · intro h
            by_cases hS : 0 < S
            · exact hS
            exfalso
            apply n2
            have q1 := pn' (show 0 ≤ t - b by omega) (show S ≤ 0 by omega)
            have q2 := nn (show B < 0 by omega) (show a - b < 0 by omega)
            have q3 := pn' (show 0 ≤ t - s by omega) (show S ≤ 0 by omega)
            have q4 := nn' (show B ≤ 0 by omega) (show a - s ≤ 0 by omega)
            have q5 : 0 ≤ (b - s) * A := by grind
            have q6 := sgn_nn (show 0 < b - s by omega) q5
            have q7 : 0 < (b - s) * T := by grind
            have q8 := sgn_pos (show 0 < b - s by omega) q7
            omega
        clear ra rb rs rt
        split <;> split <;> split <;> split <;> omega
      · clear ra rb rs rt
        split <;> split <;> split <;> split <;> omega
  · by_cases c2 : t < b
    · by_cases c3 : a ≤ t
      · have : (0 < T) ↔ (A < 0) := by
          constructor
          · intro h
            by_cases hA : A < 0
            · exact hA
            exfalso
            apply n2
            have q1 := pn h (show s - a < 0 by omega)
            have q2 := Int.mul_nonneg (show 0 ≤ A by omega) (show 0 ≤ b - a by omega)
            have q3 := Int.mul_nonneg (show 0 ≤ A by omega) (show 0 ≤ b - t by omega)
            have q4 := pn h (show s - t < 0 by omega)
            have q5 : (t - a) * S < 0 := by grind
            have hta : 0 < t - a := by
              by_cases h0 : 0 < t - a
              · exact h0
              · have : t - a = 0 := by omega
                rw [this] at q5; omega
            have q6 := sgn_neg hta q5
            have q7 : (t - a) * B < 0 := by grind
            have q8 := sgn_neg hta q7
            omega
          · intro h
            by_cases hT0 : 0 < T
            · exact hT0
            exfalso
            apply n1
            have q1 := nn' (show T ≤ 0 by omega) (show s - a ≤ 0 by omega)
            have q2 := pn (show 0 < b - a by omega) h
            have q3 := pn (show 0 < b - t by omega) h
            have q4 := nn' (show T ≤ 0 by omega) (show s - t ≤ 0 by omega)
            have q5 : 0 < (t - a) * S := by grind
            have hta : 0 < t - a := by
              by_cases h0 : 0 < t - a
              · exact h0
              · have : t - a = 0 := by omega
                rw [this] at q5; omega
            have q6 := sgn_pos hta q5
            have q7 : 0 < (t - a) * B := by grind
            have q8 := sgn_pos hta q7
            omega
        clear ra rb rs rt
        split <;> split <;> split <;> split <;> omega
      · clear ra rb rs rt
        split <;> split <;> split <;> split <;> omega
    · have : (A < 0) ↔ (B < 0) := by
        have hts : 0 < t - s := by omega
        constructor
        · intro h
          by_cases hB : B < 0
          · exact hB
          exfalso
          apply n1
          have q1 := Int.mul_nonneg (show 0 ≤ B by omega) (show 0 ≤ a - s by omega)
          have q2 := pn (show 0 < b - s by omega) h
          have q3 := nn' (show A ≤ 0 by omega) (show b - t ≤ 0 by omega)
          by_cases hat : a ≤ t
          · have q4 := pn' (show 0 ≤ B by omega) (show a - t ≤ 0 by omega)
            have q5 : 0 ≤ (t - s) * (- T) := by grind
            have q6 := sgn_nn hts q5
            have q7 : 0 < (t - s) * S := by grind
            have q8 := sgn_pos hts q7
            omega
          · omega
        · intro h
          by_cases hA : A < 0
          · exact hA
          exfalso
          apply n2
          have q1 := pn' (show 0 ≤ a - s by omega) (show B ≤ 0 by omega)
          have q2 := Int.mul_nonneg (show 0 ≤ A by omega) (show 0 ≤ b - s by omega)
          have q3 := pn' (show 0 ≤ A by omega) (show b - t ≤ 0 by omega)
          have q4 := nn' (show B ≤ 0 by omega) (show a - t ≤ 0 by omega)
          have q5 : 0 ≤ (t - s) * T := by grind
          have q6 := sgn_nn hts q5
          have q7 : 0 ≤ (t - s) * (- S) := by grind
          have q8 := sgn_nn hts q7
          omega
      clear ra rb rs rt
      split <;> split <;> split <;> split <;> omega
theorem p1_core {a b s t : Pt} (hab : a.2 ≤ b.2) (hst : s.2 ≤ t.2) (h : ¬ Mt a b s t) : cr a b s - cr a b t = ph s t b - ph s t a := by
  rw [cr_up hab, cr_up hab]
  unfold ph
  refine p1_num hab hst (turn_sum a b s t) (turn_v2 a b s t) ?_ ?_
  · rintro ⟨h1, h2, h3, h4, h5⟩
    exact h (Mt_sg h1 h2 h3 h4 h5)
  · rintro ⟨h1, h2, h3, h4, h5⟩
    refine h (Mt.swap (Mt_sg h1 h2 ?_ ?_ h5))
    · rw [turn_swap]; omega
    · rw [turn_swap]; omega
theorem phi_anti (s t p : Pt) : phi t s p = - phi s t p := by
  unfold phi
  by_cases h : s.2 ≤ t.2
  · rw [if_pos h]
    by_cases h2 : t.2 ≤ s.2
    · rw [if_pos h2]
      unfold ph
      rw [if_neg (by omega), if_neg (by omega)]; rfl
    · rw [if_neg h2]
  · rw [if_neg h, if_pos (by omega)]; omega
/-- P1 -/
theorem p1 {a b s t : Pt} (h : ¬ Mt a b s t) : cr a b s - cr a b t = phi s t b - phi s t a := by
  have key : ∀ a b s t : Pt, s.2 ≤ t.2 → ¬ Mt a b s t → cr a b s - cr a b t = ph s t b - ph s t a := by
    intro a b s t hst h
    by_cases hab : a.2 ≤ b.2
    · exact p1_core hab hst h
    · have := p1_core (a := b) (b := a) (by omega) hst (fun h' => h h'.swap)
      rw [cr_anti a b, cr_anti a b] at this
      omega
  by_cases hst : s.2 ≤ t.2
  · unfold phi
    rw [if_pos hst, if_pos hst]
    exact key a b s t hst h
  · unfold phi
    rw [if_neg hst, if_neg hst]
    have := key a b t s (by omega) (fun h' => h h'.swap')
    omega
end GE

set_option linter.all false
set_option maxHeartbeats 1000000
/-! GC: triangles. -/
namespace GE
open PG (Pt turn onB)
def InT (a b c q : Pt) : Prop := 0 ≤ turn a b q ∧ 0 ≤ turn b c q ∧ 0 ≤ turn c a q
theorem bary_sum (a b c q : Pt) : turn a b q + turn b c q + turn c a q = turn a b c := by unfold turn; grind
theorem bary_1 (a b c q : Pt) : turn b c q * a.1 + turn c a q * b.1 + turn a b q * c.1 = turn a b c * q.1 := by unfold turn; grind
theorem bary_2 (a b c q : Pt) : turn b c q * a.2 + turn c a q * b.2 + turn a b q * c.2 = turn a b c * q.2 := by unfold turn; grind
theorem InT.rot {a b c q : Pt} (h : InT a b c q) : InT b c a q := ⟨h.2.1, h.2.2, h.1⟩
theorem one_up {x y z α β γ : Int} (hx : x ≤ 0) (hy : y ≤ 0) (hz : 0 < z) (e : α * x + β * y + γ * z = 0) (hs : 0 < α + β + γ)
    (hn : ¬ (0 ≤ γ ∧ 0 ≤ α ∧ 0 ≤ β)) : 0 < α ↔ β < 0 := by
  constructor
  · intro h
    by_cases hb : β < 0
    · exact hb
    exfalso
    have q1 := pn' (show 0 ≤ α by omega) hx
    have q2 := pn' (show 0 ≤ β by omega) hy
    have q3 : 0 ≤ z * γ := by rw [Int.mul_comm]; omega
    have := sgn_nn hz q3
    omega
  · intro h
    by_cases ha : 0 < α
    · exact ha
    exfalso
    have q1 := nn' (show α ≤ 0 by omega) hx
    have q2 := nn' (show β ≤ 0 by omega) hy
    have q3 : z * γ ≤ 0 := by rw [Int.mul_comm]; omega
    have := sgn_np hz q3
    omega
theorem two_up {x y z α β γ : Int} (hx : 0 < x) (hy : 0 < y) (hz : z ≤ 0) (e : α * x + β * y + γ * z = 0) (hs : 0 < α + β + γ)
    (hn : ¬ (0 ≤ γ ∧ 0 ≤ α ∧ 0 ≤ β)) : α < 0 ↔ 0 < β := by
  constructor
  · intro h
    by_cases hb : 0 < β
    · exact hb
    exfalso
    have q1 := pn hx h
    rw [Int.mul_comm] at q1
    have q2 := pn' (show 0 ≤ y by omega) (show β ≤ 0 by omega)
    rw [Int.mul_comm] at q2
    by_cases hg : 0 ≤ γ
    · have := pn' hg hz; omega
    · omega
  · intro h
    by_cases ha : α < 0
    · exact ha
    exfalso
    have q1 := Int.mul_pos h hy
    have q2 := Int.mul_nonneg (show 0 ≤ α by omega) (show 0 ≤ x by omega)
    by_cases hg : 0 ≤ γ
    · omega
    · have := nn' (show γ ≤ 0 by omega) hz; omega
theorem tri_out {a b c q : Pt} (hD : 0 < turn a b c) (h : ¬ InT a b c q) : cr a b q + cr b c q + cr c a q = 0 := by
  have e2 := bary_2 a b c q
  have es := bary_sum a b c q
  unfold InT at h
  unfold cr
  generalize turn a b q = γ at *
  generalize turn b c q = α at *
  generalize turn c a q = β at *
  rw [← es] at e2
  have e3 : α * (a.2 - q.2) + β * (b.2 - q.2) + γ * (c.2 - q.2) = 0 := by grind
  have e4 : β * (b.2 - q.2) + γ * (c.2 - q.2) + α * (a.2 - q.2) = 0 := by omega
  have e5 : γ * (c.2 - q.2) + α * (a.2 - q.2) + β * (b.2 - q.2) = 0 := by omega
  by_cases ha : a.2 ≤ q.2 <;> by_cases hb : b.2 ≤ q.2 <;> by_cases hc : c.2 ≤ q.2
  · clear e2 e3 e4 e5; grind
  · have := one_up (by omega) (by omega) (by omega) e3 (by omega) (by omega)
    clear e2 e3 e4 e5; grind
  · have := one_up (by omega) (by omega) (by omega) e5 (by omega) (by omega)
    clear e2 e3 e4 e5; grind
  · have := two_up (by omega) (by omega) (by omega) e4 (by omega) (by omega)
    clear e2 e3 e4 e5; grind
  · have := one_up (by omega) (by omega) (by omega) e4 (by omega) (by omega)
    clear e2 e3 e4 e5; grind
  · have := two_up (by omega) (by omega) (by omega) e5 (by omega) (by omega)
    clear e2 e3 e4 e5; grind
  · have := two_up (by omega) (by omega) (by omega) e3 (by omega) (by omega)
    clear e2 e3 e4 e5; grind
  · clear e2 e3 e4 e5; grind
theorem tri_in {a b c q : Pt} (h1 : 0 < turn a b q) (h2 : 0 < turn b c q) (h3 : 0 < turn c a q) : cr a b q + cr b c q + cr c a q = 1 := by
  have hz : a.2 = q.2 → b.2 = q.2 → c.2 = q.2 → False := by
    intro z1 z2 z3
    unfold turn at h1
    rw [z1, z2, Int.sub_self, Int.zero_mul, Int.mul_zero] at h1
    omega
  have e2 := bary_2 a b c q
  have es := bary_sum a b c q
  unfold cr
  generalize turn a b q = γ at *
  generalize turn b c q = α at *
  generalize turn c a q = β at *
  rw [← es] at e2
  have e3 : α * (a.2 - q.2) + β * (b.2 - q.2) + γ * (c.2 - q.2) = 0 := by grind
  have hn : ¬ (a.2 ≤ q.2 ∧ b.2 ≤ q.2 ∧ c.2 ≤ q.2) ∨ (a.2 = q.2 ∧ b.2 = q.2 ∧ c.2 = q.2) := by
    by_cases h : a.2 ≤ q.2 ∧ b.2 ≤ q.2 ∧ c.2 ≤ q.2
    · right
      have q1 := pn' (show 0 ≤ α by omega) (show a.2 - q.2 ≤ 0 by omega)
      have q2 := pn' (show 0 ≤ β by omega) (show b.2 - q.2 ≤ 0 by omega)
      have q3 := pn' (show 0 ≤ γ by omega) (show c.2 - q.2 ≤ 0 by omega)
      have z1 := sgn_z h2 (show α * (a.2 - q.2) = 0 by omega)
      have z2 := sgn_z h3 (show β * (b.2 - q.2) = 0 by omega)
      have z3 := sgn_z h1 (show γ * (c.2 - q.2) = 0 by omega)
      omega
    · exact Or.inl h
  have hp : ¬ (q.2 < a.2 ∧ q.2 < b.2 ∧ q.2 < c.2) := by
    rintro ⟨p1, p2, p3⟩
    have q1 := Int.mul_pos h2 (show 0 < a.2 - q.2 by omega)
    have q2 := Int.mul_pos h3 (show 0 < b.2 - q.2 by omega)
    have q3 := Int.mul_pos h1 (show 0 < c.2 - q.2 by omega)
    omega
  clear e2 e3 es
  have hn' : ¬ (a.2 ≤ q.2 ∧ b.2 ≤ q.2 ∧ c.2 ≤ q.2) := by
    rcases hn with h | ⟨u1, u2, u3⟩
    · exact h
    · exact absurd (hz u1 u2 u3) id
  clear hn hz
  by_cases ha : a.2 ≤ q.2 <;> by_cases hb : b.2 ≤ q.2 <;> by_cases hc : c.2 ≤ q.2 <;> grind
theorem InT.on {a b c q : Pt} (hD : 0 < turn a b c) (h : InT a b c q) (h0 : turn a b q = 0) : On a b q := by
  have e1 := bary_1 a b c q
  have e2 := bary_2 a b c q
  have es := bary_sum a b c q
  refine On_of_wt h.2.1 h.2.2 (by omega) ?_ ?_
  · rw [show turn b c q + turn c a q = turn a b c by omega, ← e1, h0]; omega
  · rw [show turn b c q + turn c a q = turn a b c by omega, ← e2, h0]; omega
theorem On.inT {a b c q : Pt} (hD : 0 < turn a b c) (h : On a b q) : InT a b c q := by
  have hn : a ≠ b := by intro e; subst e; rw [turn_aab] at hD; omega
  obtain ⟨α, β, h1, h2, h3, h4, h5⟩ := h.wt hn
  have e1 : (α + β) * turn b c q = α * turn a b c := by unfold turn; grind
  have e2 : (α + β) * turn c a q = β * turn a b c := by unfold turn; grind
  refine ⟨by rw [h.1]; omega, sgn_nn h3 ?_, sgn_nn h3 ?_⟩
  · rw [e1]; exact Int.mul_nonneg h1 (by omega)
  · rw [e2]; exact Int.mul_nonneg h2 (by omega)
theorem ex_num {D l m A1 A2 C1 C2 Y1 Y2 fa fy fc : Int} (hD : 0 < D) (hl : 0 < l) (hm : 0 < m)
    (ia : D * fa = Y1 * C2 - C1 * Y2) (iy : D * fy = C1 * A2 - A1 * C2) (ic : D * fc = A1 * Y2 - Y1 * A2)
    (hA : 0 ≤ l * A1 + m * A2) (hC : 0 ≤ l * C1 + m * C2) (hY : 0 < l * Y1 + m * Y2) (hs : Y2 ≤ Y1) (ho : A1 < 0 ∨ C1 < 0) :
    (fy = 0 ∧ (A1 * A2 < 0 ∨ C1 * C2 < 0)) ∨ (fy * fc < 0 ∧ A1 * A2 < 0) ∨ (fa * fy < 0 ∧ C1 * C2 < 0) := by
  generalize hAX : l * A1 + m * A2 = AX at hA
  generalize hCX : l * C1 + m * C2 = CX at hC
  generalize hYX : l * Y1 + m * Y2 = YX at hY
  have hY1 : 0 < Y1 := by
    by_cases h : 0 < Y1
    · exact h
    · have q1 := pn' (Int.le_of_lt hl) (show Y1 ≤ 0 by omega)
      have q2 := pn' (Int.le_of_lt hm) (show Y2 ≤ 0 by omega)
      omega
  have ja : (m * D) * fa = Y1 * CX - C1 * YX := by rw [Int.mul_assoc, ia, ← hCX, ← hYX]; grind
  have jy : (m * D) * fy = C1 * AX - A1 * CX := by rw [Int.mul_assoc, iy, ← hCX, ← hAX]; grind
  have jc : (m * D) * fc = A1 * YX - Y1 * AX := by rw [Int.mul_assoc, ic, ← hAX, ← hYX]; grind
  have hmD := Int.mul_pos hm hD
  have a1 : A1 < 0 → A1 * A2 < 0 ∧ fc < 0 := by
    intro h
    have q1 := pn hl h
    have q2 := sgn_pos hm (show 0 < m * A2 by omega)
    constructor
    · rw [Int.mul_comm]; exact pn q2 h
    · apply sgn_neg hmD
      rw [jc]
      have q3 := pn hY h
      have q4 := Int.mul_nonneg (Int.le_of_lt hY1) hA
      rw [Int.mul_comm] at q3; omega
  have c1 : C1 < 0 → C1 * C2 < 0 ∧ 0 < fa := by
    intro h
    have q1 := pn hl h
    have q2 := sgn_pos hm (show 0 < m * C2 by omega)
    constructor
    · rw [Int.mul_comm]; exact pn q2 h
    · apply sgn_pos hmD
      rw [ja]
      have q3 := pn hY h
      have q4 := Int.mul_nonneg (Int.le_of_lt hY1) hC
      rw [Int.mul_comm] at q3; omega
  rcases Int.lt_trichotomy fy 0 with hy | hy | hy
  · -- then C1 < 0
    right; right
    have hc : C1 < 0 := by
      by_cases h : C1 < 0
      · exact h
      exfalso
      have hA1 : A1 < 0 := by omega
      have q1 := Int.mul_nonneg (show 0 ≤ C1 by omega) hA
      have q2 := pn' hC (show A1 ≤ 0 by omega)
      have q3 := pn hmD hy
      rw [Int.mul_comm] at q2
      omega
    exact ⟨pn (c1 hc).2 hy, (c1 hc).1⟩
  · left
    exact ⟨hy, by rcases ho with h | h; exact Or.inl (a1 h).1; exact Or.inr (c1 h).1⟩
  · right; left
    have ha : A1 < 0 := by
      by_cases h : A1 < 0
      · exact h
      exfalso
      have hC1 : C1 < 0 := by omega
      have q1 := Int.mul_nonneg (show 0 ≤ A1 by omega) hC
      have q2 := pn' hA (show C1 ≤ 0 by omega)
      have q3 := Int.mul_pos hmD hy
      rw [Int.mul_comm] at q2
      omega
    exact ⟨pn hy (a1 ha).2, (a1 ha).1⟩
theorem on_opp {s t y c : Pt} (h0 : turn s t y = 0) (h : turn y c s * turn y c t < 0) : On s t y := by
  have e1 : turn y c t * s.1 + (- turn y c s) * t.1 = (turn y c t + (- turn y c s)) * y.1 := by unfold turn at *; grind
  have e2 : turn y c t * s.2 + (- turn y c s) * t.2 = (turn y c t + (- turn y c s)) * y.2 := by unfold turn at *; grind
  rcases neg_of_mul h with ⟨h1, h2⟩ | ⟨h1, h2⟩
  · exact On_of_wt (by omega) (by omega) (by omega) e1 e2
  · have e3 : turn y c s * t.1 + (- turn y c t) * s.1 = (turn y c s + (- turn y c t)) * y.1 := by clear h h0; grind
    have e4 : turn y c s * t.2 + (- turn y c t) * s.2 = (turn y c s + (- turn y c t)) * y.2 := by clear h h0; grind
    exact (On_of_wt (by omega) (by omega) (by omega) e3 e4).comm
theorem exitT {a y c s t : Pt} {l m : Int} (hD : 0 < turn a y c) (hl : 0 < l) (hm : 0 < m)
    (hA : 0 ≤ l * turn y c s + m * turn y c t) (hC : 0 ≤ l * turn a y s + m * turn a y t) (hY : 0 < l * turn c a s + m * turn c a t)
    (hs : turn c a t ≤ turn c a s) (ho : turn y c s < 0 ∨ turn a y s < 0) : On s t y ∨ Xs s t y c ∨ Xs s t a y := by
  have ia : turn a y c * turn s t a = turn c a s * turn a y t - turn a y s * turn c a t := by unfold turn; grind
  have iy : turn a y c * turn s t y = turn a y s * turn y c t - turn y c s * turn a y t := by unfold turn; grind
  have ic : turn a y c * turn s t c = turn y c s * turn c a t - turn c a s * turn y c t := by unfold turn; grind
  rcases ex_num hD hl hm ia iy ic hA hC hY hs ho with ⟨h0, h1 | h1⟩ | h | h
  · exact Or.inl (on_opp h0 h1)
  · left
    refine on_opp (c := a) h0 ?_
    rw [turn_swap, turn_swap a y t, Int.neg_mul_neg]; exact h1
  · exact Or.inr (Or.inl h)
  · exact Or.inr (Or.inr h)
theorem Xs.swap {s t a b : Pt} (h : Xs s t a b) : Xs t s a b := by
  obtain ⟨h1, h2⟩ := h
  refine ⟨?_, by rw [Int.mul_comm]; exact h2⟩
  rw [turn_swap, turn_swap s t b, Int.neg_mul_neg]; exact h1
theorem Xs.symm {s t a b : Pt} (h : Xs s t a b) : Xs a b s t := ⟨h.2, h.1⟩
/-- what is asked of a side beside a triangle that is cut off at y -/
structure Off (a y c s t : Pt) : Prop where
  ps : InT a y c s → s = a ∨ s = c
  pt : InT a y c t → t = a ∨ t = c
  oy : ¬ On s t y
  x1 : ¬ Xs s t y c
  x2 : ¬ Xs s t a y
theorem noT {a y c s t : Pt} (hD : 0 < turn a y c) (h : Off a y c s t) {l m : Int} (hl : 0 ≤ l) (hm : 0 ≤ m)
    (hA : 0 ≤ l * turn y c s + m * turn y c t) (hC : 0 ≤ l * turn a y s + m * turn a y t) (hY : 0 < l * turn c a s + m * turn c a t) : False := by
  have key : ∀ p : Pt, (InT a y c p → p = a ∨ p = c) → 0 < turn c a p → turn y c p < 0 ∨ turn a y p < 0 := by
    intro p hp h0
    by_cases h1 : turn y c p < 0
    · exact Or.inl h1
    · by_cases h2 : turn a y p < 0
      · exact Or.inr h2
      · rcases hp ⟨by omega, by omega, by omega⟩ with e | e
        · subst e; rw [turn_abb] at h0; omega
        · subst e; rw [turn_aba] at h0; omega
  have pos : ∀ {k x : Int}, 0 ≤ k → 0 < k * x → 0 < k ∧ 0 < x := by
    intro k x hk h
    rcases Int.lt_or_eq_of_le hk with h0 | h0
    · exact ⟨h0, sgn_pos h0 h⟩
    · subst h0; omega
  rcases Int.lt_or_eq_of_le hl with hl0 | hl0
  · rcases Int.lt_or_eq_of_le hm with hm0 | hm0
    · rcases Int.le_total (turn c a t) (turn c a s) with hs | hs
      · have hY1 : 0 < turn c a s := by
          by_cases h0 : 0 < turn c a s
          · exact h0
          · have q1 := pn' hl (show turn c a s ≤ 0 by omega)
            have q2 := pn' hm (show turn c a t ≤ 0 by omega)
            omega
        rcases exitT hD hl0 hm0 hA hC hY hs (key s h.ps hY1) with e | e | e
        · exact h.oy e
        · exact h.x1 e
        · exact h.x2 e
      · have hY1 : 0 < turn c a t := by
          by_cases h0 : 0 < turn c a t
          · exact h0
          · have q1 := pn' hl (show turn c a s ≤ 0 by omega)
            have q2 := pn' hm (show turn c a t ≤ 0 by omega)
            omega
        rcases exitT (s := t) (t := s) hD hm0 hl0 (by omega) (by omega) (by omega) hs (key t h.pt hY1) with e | e | e
        · exact h.oy e.comm
        · exact h.x1 e.swap
        · exact h.x2 e.swap
    · subst hm0
      have q1 := pos hl (by simpa using hY)
      have q2 := sgn_nn hl0 (by simpa using hA)
      have q3 := sgn_nn hl0 (by simpa using hC)
      have := key s h.ps q1.2
      omega
  · subst hl0
    have q1 := pos hm (by simpa using hY)
    have q2 := sgn_nn q1.1 (by simpa using hA)
    have q3 := sgn_nn q1.1 (by simpa using hC)
    have := key t h.pt q1.2
    omega
/-- a segment in the triangle, off its side ac, does not meet the side -/
theorem noT_seg {a y c s t q r : Pt} (hD : 0 < turn a y c) (h : Off a y c s t) (hq : InT a y c q) (hq' : 0 < turn c a q)
    (hr : InT a y c r) (hr' : 0 < turn c a r) : ¬ Mt q r s t := by
  rintro ⟨α, β, l, m, w⟩
  have e1 := w.turn y c
  have e2 := w.turn a y
  have e3 := w.turn c a
  obtain ⟨p1, p2, p3, p4, p5, _⟩ := w
  refine noT hD h p3 p4 ?_ ?_ ?_
  · rw [← e1]
    have := Int.mul_nonneg p1 hq.2.1; have := Int.mul_nonneg p2 hr.2.1; omega
  · rw [← e2]
    have := Int.mul_nonneg p1 hq.1; have := Int.mul_nonneg p2 hr.1; omega
  · rw [← e3]
    have := Int.mul_nonneg p1 hq.2.2; have := Int.mul_nonneg p2 hr.2.2
    rcases Int.lt_or_le 0 α with h0 | h0
    · have := Int.mul_pos h0 hq'; omega
    · have := Int.mul_pos (show 0 < β by omega) hr'; omega
theorem noT_ac {a c q r : Pt} (hq' : 0 < turn c a q) (hr' : 0 < turn c a r) : ¬ Mt q r a c := by
  rintro ⟨α, β, l, m, w⟩
  have e3 := w.turn c a
  rw [turn_abb, turn_aba] at e3
  obtain ⟨p1, p2, p3, p4, p5, _⟩ := w
  have := Int.mul_nonneg p1 (Int.le_of_lt hq'); have := Int.mul_nonneg p2 (Int.le_of_lt hr')
  rcases Int.lt_or_le 0 α with h0 | h0
  · have := Int.mul_pos h0 hq'; omega
  · have := Int.mul_pos (show 0 < β by omega) hr'; omega
theorem On.mt {s t q : Pt} (h : On s t q) (hn : s ≠ t) : Mt q q s t := by
  obtain ⟨α, β, h1, h2, h3, h4, h5⟩ := h.wt hn
  exact ⟨α, β, α, β, h1, h2, h1, h2, h3, rfl, by rw [h4]; grind, by rw [h5]; grind⟩
theorem noT_on {a y c s t q : Pt} (hD : 0 < turn a y c) (h : Off a y c s t) (hst : s ≠ t) (hq : InT a y c q) (hq' : 0 < turn c a q) : ¬ On s t q :=
  fun ho => noT_seg hD h hq hq' hq hq' (ho.mt hst)
theorem noT_x {a y c s t : Pt} (hD : 0 < turn a y c) (h : Off a y c s t) : ¬ Xs a c s t := by
  rintro ⟨h1, h2⟩
  have g1 : turn a c s = - turn c a s := turn_swap c a s
  have g2 : turn a c t = - turn c a t := turn_swap c a t
  rw [g1, g2, Int.neg_mul_neg] at h1
  -- the weights of the crossing
  have k1 : ∀ p q : Pt, turn c a t * turn p q s - turn c a s * turn p q t = turn s t c * turn p q a - turn s t a * turn p q c := by
    intro p q; unfold turn; grind
  have kA := k1 y c
  have kC := k1 a y
  rw [turn_abb] at kA
  rw [turn_aba] at kC
  have eA : turn y c a = turn a y c := turn_rot a y c
  rw [eA] at kA
  have kk : turn s t a - turn s t c = turn c a s - turn c a t := turn_sum c a s t
  generalize hYs : turn c a s = Y1 at *
  generalize hYt : turn c a t = Y2 at *
  generalize hAs : turn y c s = A1 at *
  generalize hAt : turn y c t = A2 at *
  generalize hCs : turn a y s = C1 at *
  generalize hCt : turn a y t = C2 at *
  generalize hfa : turn s t a = fa at *
  generalize hfc : turn s t c = fc at *
  generalize hDD : turn a y c = D at *
  -- fc*D and fa*D
  have noT' := @noT a y c s t (by omega) h
  rw [hYs, hYt, hAs, hAt, hCs, hCt] at noT'
  have N0 : ∃ N : Int, 0 ≤ N ∧ -N ≤ A1 ∧ -N ≤ A2 ∧ -N ≤ C1 ∧ -N ≤ C2 := ⟨A1.natAbs + A2.natAbs + C1.natAbs + C2.natAbs, by omega, by omega, by omega, by omega, by omega⟩
  obtain ⟨N, hN, n1, n2, n3, n4⟩ := N0
  have big : ∀ {X Z : Int}, 0 < X → -N ≤ Z → 0 ≤ N * X + Z := by
    intro X Z hX hZ
    have := Int.mul_nonneg hN (show 0 ≤ X - 1 by omega)
    rw [Int.mul_sub] at this
    omega
  rcases neg_of_mul h1 with ⟨hy1, hy2⟩ | ⟨hy1, hy2⟩
  · -- Y1 < 0 < Y2: weights Y2, -Y1
    have hfc : 0 < fc ∧ fa < 0 := by
      rcases neg_of_mul h2 with ⟨u1, u2⟩ | ⟨u1, u2⟩ <;> omega
    have qA := Int.mul_pos hfc.1 hD
    have qC := Int.mul_pos (show 0 < - fa by omega) hD
    have bA := big (show 0 < Y2 * A1 - Y1 * A2 by rw [kA]; omega) n2
    have bC := big (show 0 < Y2 * C1 - Y1 * C2 by rw [kC]; grind) n4
    refine noT' (l := N * Y2) (m := N * (- Y1) + 1) (Int.mul_nonneg hN (by omega)) ?_ ?_ ?_ ?_
    · have := Int.mul_nonneg hN (show 0 ≤ - Y1 by omega); omega
    · have : N * Y2 * A1 + (N * -Y1 + 1) * A2 = N * (Y2 * A1 - Y1 * A2) + A2 := by grind
      omega
    · have : N * Y2 * C1 + (N * -Y1 + 1) * C2 = N * (Y2 * C1 - Y1 * C2) + C2 := by grind
      omega
    · have : N * Y2 * Y1 + (N * -Y1 + 1) * Y2 = Y2 := by grind
      omega
  · have hfc : fc < 0 ∧ 0 < fa := by
      rcases neg_of_mul h2 with ⟨u1, u2⟩ | ⟨u1, u2⟩ <;> omega
    have qA := pn hD hfc.1
    have qC := Int.mul_pos hfc.2 hD
    have bA := big (show 0 < Y1 * A2 - Y2 * A1 by grind) n1
    have bC := big (show 0 < Y1 * C2 - Y2 * C1 by grind) n3
    refine noT' (l := N * (- Y2) + 1) (m := N * Y1) ?_ (Int.mul_nonneg hN (by omega)) ?_ ?_ ?_
    · have := Int.mul_nonneg hN (show 0 ≤ - Y2 by omega); omega
    · have : (N * -Y2 + 1) * A1 + N * Y1 * A2 = N * (Y1 * A2 - Y2 * A1) + A1 := by grind
      omega
    · have : (N * -Y2 + 1) * C1 + N * Y1 * C2 = N * (Y1 * C2 - Y2 * C1) + C1 := by grind
      omega
    · have : (N * -Y2 + 1) * Y1 + N * Y1 * Y2 = Y1 := by grind
      omega
end GE

set_option linter.all false
set_option maxHeartbeats 1000000
/-! GD: rings of corners, their sides, the winding. -/
namespace GE
open PG (Pt turn onB)
abbrev Ed := Pt × Pt
def path : Pt → List Pt → List Ed
  | _, [] => []
  | a, b :: r => (a, b) :: path b r
def en : Pt → List Pt → Pt
  | a, [] => a
  | _, b :: r => en b r
def E : List Pt → List Ed
  | [] => []
  | v :: L => path v (L ++ [v])
theorem en_snoc (b : Pt) : ∀ (L : List Pt) (a : Pt), en a (L ++ [b]) = b
  | [], _ => rfl
  | c :: L, _ => en_snoc b L c
theorem path_app (M : List Pt) : ∀ (L : List Pt) (a : Pt), path a (L ++ M) = path a L ++ path (en a L) M
  | [], _ => rfl
  | c :: L, a => by
    show (a, c) :: path c (L ++ M) = _
    rw [path_app M L c]; rfl
theorem path_snoc (L : List Pt) (b : Pt) (M : List Pt) (a : Pt) : path a (L ++ b :: M) = path a (L ++ [b]) ++ path b M := by
  have h : L ++ b :: M = (L ++ [b]) ++ M := by rw [List.append_assoc]; rfl
  rw [h, path_app M (L ++ [b]) a, en_snoc]
theorem path_mem {e : Ed} : ∀ (L : List Pt) (a : Pt), e ∈ path a L → e.1 ∈ a :: L ∧ e.2 ∈ L
  | [], _, h => by cases h
  | c :: L, a, h => by
    rcases List.mem_cons.mp h with h | h
    · subst h; exact ⟨List.mem_cons_self, List.mem_cons_self⟩
    · have := path_mem L c h
      exact ⟨List.mem_cons_of_mem _ this.1, List.mem_cons_of_mem _ this.2⟩
theorem path_mem1 {e : Ed} (b : Pt) : ∀ (L : List Pt) (a : Pt), e ∈ path a (L ++ [b]) → e.1 ∈ a :: L
  | [], a, h => by
    have : e = (a, b) := by simpa [path] using h
    subst this; exact List.mem_cons_self
  | c :: L, a, h => by
    rcases List.mem_cons.mp h with h | h
    · subst h; exact List.mem_cons_self
    · exact List.mem_cons_of_mem _ (path_mem1 b L c h)
theorem path_has1 (b : Pt) : ∀ (L : List Pt) (a p : Pt), p ∈ a :: L → ∃ q, (p, q) ∈ path a (L ++ [b])
  | [], a, p, h => by
    have : p = a := by simpa using h
    subst this; exact ⟨b, List.mem_cons_self⟩
  | c :: L, a, p, h => by
    rcases List.mem_cons.mp h with h | h
    · subst h; exact ⟨c, List.mem_cons_self⟩
    · obtain ⟨q, hq⟩ := path_has1 b L c p h
      exact ⟨q, List.mem_cons_of_mem _ hq⟩
theorem E_mem {e : Ed} : ∀ {l : List Pt}, e ∈ E l → e.1 ∈ l ∧ e.2 ∈ l
  | [], h => by cases h
  | v :: L, h => by
    have h1 := path_mem1 v L v h
    have h2 := (path_mem _ _ h).2
    refine ⟨h1, ?_⟩
    rcases List.mem_append.mp h2 with h | h
    · exact List.mem_cons_of_mem _ h
    · have : e.2 = v := by simpa using h
      rw [this]; exact List.mem_cons_self
theorem path_fst (b : Pt) : ∀ (L : List Pt) (a : Pt), (path a (L ++ [b])).map (·.1) = a :: L
  | [], a => rfl
  | c :: L, a => by
    show a :: (path c (L ++ [b])).map (·.1) = _
    rw [path_fst b L c]
theorem path_snd : ∀ (L : List Pt) (a : Pt), (path a L).map (·.2) = L
  | [], a => rfl
  | c :: L, a => by
    show c :: (path c L).map (·.2) = _
    rw [path_snd L c]
theorem E_fst : ∀ (l : List Pt), (E l).map (·.1) = l
  | [] => rfl
  | v :: L => path_fst v L v
theorem E_snd : ∀ (l : List Pt), ((E l).map (·.2)).Perm l
  | [] => List.Perm.refl _
  | v :: L => by
    show ((path v (L ++ [v])).map (·.2)).Perm _
    rw [path_snd]
    exact List.perm_append_comm (l₁ := L) (l₂ := [v])
theorem nodup_inj {α β : Type} (f : α → β) {x y : α} : ∀ {l : List α}, (l.map f).Nodup → x ∈ l → y ∈ l → f x = f y → x = y
  | [], _, h, _, _ => by cases h
  | a :: l, hn, hx, hy, h => by
    rw [List.map_cons, List.nodup_cons] at hn
    rcases List.mem_cons.mp hx with hx | hx <;> rcases List.mem_cons.mp hy with hy | hy
    · rw [hx, hy]
    · rw [hx] at h; exact absurd (by rw [h]; exact List.mem_map_of_mem hy) hn.1
    · rw [hy] at h; exact absurd (by rw [← h]; exact List.mem_map_of_mem hx) hn.1
    · exact nodup_inj f hn.2 hx hy h
theorem succ_uniq {l : List Pt} (hn : l.Nodup) {v w w' : Pt} (h1 : (v, w) ∈ E l) (h2 : (v, w') ∈ E l) : w = w' := by
  have := nodup_inj (·.1) (l := E l) (by rw [E_fst]; exact hn) h1 h2 rfl
  exact (Prod.mk.inj this).2
theorem pred_uniq {l : List Pt} (hn : l.Nodup) {v w w' : Pt} (h1 : (w, v) ∈ E l) (h2 : (w', v) ∈ E l) : w = w' := by
  have := nodup_inj (·.2) (l := E l) ((E_snd l).nodup_iff.mpr hn) h1 h2 rfl
  exact (Prod.mk.inj this).1
/-- the same ring, told from another corner -/
def Rot (l m : List Pt) : Prop := l.Perm m ∧ (E l).Perm (E m)
theorem Rot.refl (l : List Pt) : Rot l l := ⟨List.Perm.refl _, List.Perm.refl _⟩
theorem Rot.symm {l m : List Pt} (h : Rot l m) : Rot m l := ⟨h.1.symm, h.2.symm⟩
theorem Rot.trans {l m k : List Pt} (h : Rot l m) (h' : Rot m k) : Rot l k := ⟨h.1.trans h'.1, h.2.trans h'.2⟩
theorem Rot_app (A B : List Pt) : Rot (A ++ B) (B ++ A) := by
  refine ⟨List.perm_append_comm, ?_⟩
  cases A with
  | nil => rw [List.append_nil]; exact List.Perm.refl _
  | cons v A =>
    cases B with
    | nil => rw [List.append_nil]; exact List.Perm.refl _
    | cons w B =>
      show (path v ((A ++ w :: B) ++ [v])).Perm (path w ((B ++ v :: A) ++ [w]))
      have h1 : (A ++ w :: B) ++ [v] = A ++ w :: (B ++ [v]) := by rw [List.append_assoc]; rfl
      have h2 : (B ++ v :: A) ++ [w] = B ++ v :: (A ++ [w]) := by rw [List.append_assoc]; rfl
      rw [h1, h2, path_snoc A w (B ++ [v]), path_snoc B v (A ++ [w])]
      exact List.perm_append_comm
theorem Rot_at {l : List Pt} {v : Pt} (h : v ∈ l) : ∃ M, Rot l (v :: M) := by
  obtain ⟨A, B, e⟩ := List.append_of_mem h
  exact ⟨B ++ A, by rw [e]; exact Rot_app A (v :: B)⟩
theorem Rot.mem {l m : List Pt} (h : Rot l m) (p : Pt) : p ∈ l ↔ p ∈ m := h.1.mem_iff
theorem Rot.memE {l m : List Pt} (h : Rot l m) (e : Ed) : e ∈ E l ↔ e ∈ E m := h.2.mem_iff
theorem Rot.len {l m : List Pt} (h : Rot l m) : l.length = m.length := h.1.length_eq
theorem Rot.nodup {l m : List Pt} (h : Rot l m) : l.Nodup ↔ m.Nodup := h.1.nodup_iff
/-- two sides one after the other -/
theorem Rot_two {l : List Pt} {u v w : Pt} (hn : l.Nodup) (h3 : 3 ≤ l.length) (h1 : (u, v) ∈ E l) (h2 : (v, w) ∈ E l) : ∃ M, Rot l (u :: v :: w :: M) := by
  obtain ⟨M, hM⟩ := Rot_at (E_mem h1).1
  have hn' := hM.nodup.mp hn
  match M, hM with
  | [], hM => rw [hM.len] at h3; simp at h3
  | [x], hM => rw [hM.len] at h3; simp at h3
  | x :: y :: M, hM =>
    have e1 : (u, x) ∈ E (u :: x :: y :: M) := List.mem_cons_self
    have e2 : (x, y) ∈ E (u :: x :: y :: M) := List.mem_cons_of_mem _ List.mem_cons_self
    have := succ_uniq hn' e1 ((hM.memE _).mp h1)
    subst this
    have := succ_uniq hn' e2 ((hM.memE _).mp h2)
    subst this
    exact ⟨M, hM⟩
theorem E_succ {l : List Pt} {v : Pt} (h : v ∈ l) : ∃ w, (v, w) ∈ E l := by
  rw [← E_fst l] at h
  obtain ⟨e, he, h⟩ := List.mem_map.mp h
  exact ⟨e.2, by rw [← h]; exact he⟩
theorem E_pred {l : List Pt} {v : Pt} (h : v ∈ l) : ∃ u, (u, v) ∈ E l := by
  rw [← (E_snd l).mem_iff] at h
  obtain ⟨e, he, h⟩ := List.mem_map.mp h
  exact ⟨e.1, by rw [← h]; exact he⟩
structure Simp (l : List Pt) : Prop where
  nd : l.Nodup
  len : 3 ≤ l.length
  on : ∀ e ∈ E l, ∀ p ∈ l, On e.1 e.2 p → p = e.1 ∨ p = e.2
  xs : ∀ e ∈ E l, ∀ f ∈ E l, ¬ Xs e.1 e.2 f.1 f.2
theorem Simp.rot {l m : List Pt} (h : Simp l) (hr : Rot l m) : Simp m where
  nd := hr.nodup.mp h.nd
  len := by rw [← hr.len]; exact h.len
  on e he p hp := h.on e ((hr.memE _).mpr he) p ((hr.mem _).mpr hp)
  xs e he f hf := h.xs e ((hr.memE _).mpr he) f ((hr.memE _).mpr hf)
theorem Simp.ne {l : List Pt} (h : Simp l) {e : Ed} (he : e ∈ E l) : e.1 ≠ e.2 := by
  intro h0
  obtain ⟨M, hM⟩ := Rot_at (E_mem he).1
  have hn' := hM.nodup.mp h.nd
  have hl := h.len
  match M, hM with
  | [], hM => rw [hM.len] at hl; simp at hl
  | x :: M, hM =>
    have e1 : (e.1, x) ∈ E (e.1 :: x :: M) := List.mem_cons_self
    have := succ_uniq hn' e1 ((hM.memE (e.1, e.2)).mp he)
    rw [List.nodup_cons] at hn'
    exact hn'.1 (by rw [this, ← h0]; exact List.mem_cons_self)
def wE (S : List Ed) (q : Pt) : Int := (S.map fun e => cr e.1 e.2 q).sum
def wi (l : List Pt) (q : Pt) : Int := wE (E l) q
theorem wE_app (S T : List Ed) (q : Pt) : wE (S ++ T) q = wE S q + wE T q := by unfold wE; rw [List.map_append, List.sum_append]
theorem wE_cons (e : Ed) (S : List Ed) (q : Pt) : wE (e :: S) q = cr e.1 e.2 q + wE S q := by unfold wE; rw [List.map_cons, List.sum_cons]
theorem perm_sum {S T : List Int} (h : S.Perm T) : S.sum = T.sum := by
  induction h with
  | nil => rfl
  | cons x _ ih => rw [List.sum_cons, List.sum_cons, ih]
  | swap x y l => simp only [List.sum_cons]; omega
  | trans _ _ h1 h2 => rw [h1, h2]
theorem wE_perm {S T : List Ed} (h : S.Perm T) (q : Pt) : wE S q = wE T q := perm_sum (h.map _)
theorem Rot.wi {l m : List Pt} (h : Rot l m) (q : Pt) : wi l q = wi m q := wE_perm h.2 q
theorem p1_path {s t : Pt} : ∀ (L : List Pt) (a : Pt), (∀ e ∈ path a L, ¬ Mt e.1 e.2 s t) → wE (path a L) s - wE (path a L) t = phi s t (en a L) - phi s t a
  | [], a, _ => by unfold path wE en; simp
  | c :: L, a, h => by
    have h1 := p1 (h (a, c) List.mem_cons_self)
    have h2 := p1_path L c (fun e he => h e (List.mem_cons_of_mem _ he))
    show wE ((a, c) :: path c L) s - wE ((a, c) :: path c L) t = phi s t (en c L) - phi s t a
    rw [wE_cons, wE_cons]
    simp only at h1 ⊢
    omega
theorem wi_const {s t : Pt} : ∀ {l : List Pt}, (∀ e ∈ E l, ¬ Mt e.1 e.2 s t) → wi l s = wi l t
  | [], _ => rfl
  | v :: L, h => by
    have := p1_path (L ++ [v]) v h
    rw [en_snoc] at this
    show wE (path v (L ++ [v])) s = wE (path v (L ++ [v])) t
    omega
/-! an ear cut off -/
/-- no other corner in the triangle -/
def Ear (l : List Pt) (a y c : Pt) : Prop := 0 < turn a y c ∧ ∀ p ∈ l, InT a y c p → p = a ∨ p = y ∨ p = c
theorem E_ear (a y c : Pt) (M : List Pt) : E (a :: y :: c :: M) = (a, y) :: (y, c) :: path c (M ++ [a]) := rfl
theorem E_cut (a c : Pt) (M : List Pt) : E (a :: c :: M) = (a, c) :: path c (M ++ [a]) := rfl
theorem wi_ear (a y c : Pt) (M : List Pt) (q : Pt) : wi (a :: y :: c :: M) q = wi (a :: c :: M) q + (cr a y q + cr y c q + cr c a q) := by
  unfold wi
  rw [E_ear, E_cut, wE_cons, wE_cons, wE_cons, cr_anti a c]
  simp only
  omega
theorem ear_off {a y c : Pt} {M : List Pt} (h : Simp (a :: y :: c :: M)) (he : Ear (a :: y :: c :: M) a y c) {e : Ed} (hm : e ∈ path c (M ++ [a])) : Off a y c e.1 e.2 := by
  have hE : e ∈ E (a :: y :: c :: M) := List.mem_cons_of_mem _ (List.mem_cons_of_mem _ hm)
  have hn := h.nd
  have m1 : e.1 ∈ c :: M := path_mem1 a M c hm
  have m2 : e.2 ∈ M ++ [a] := (path_mem _ _ hm).2
  simp only [List.nodup_cons, List.mem_cons, not_or] at hn
  obtain ⟨⟨n1, n2, n3⟩, ⟨n4, n5⟩, n6, n7⟩ := hn
  have y1 : e.1 ≠ y := by
    intro e0; rw [e0] at m1
    rcases List.mem_cons.mp m1 with h | h
    · exact n4 h
    · exact n5 h
  have y2 : e.2 ≠ y := by
    intro e0; rw [e0] at m2
    rcases List.mem_append.mp m2 with h | h
    · exact n5 h
    · exact n1 (by have : y = a := by simpa using h
                   exact this.symm)
  have q1 : e.1 ∈ a :: y :: c :: M := (E_mem hE).1
  have q2 : e.2 ∈ a :: y :: c :: M := (E_mem hE).2
  refine ⟨?_, ?_, ?_, ?_, ?_⟩
  · intro hi
    rcases he.2 _ q1 hi with h | h | h
    · exact Or.inl h
    · exact absurd h y1
    · exact Or.inr h
  · intro hi
    rcases he.2 _ q2 hi with h | h | h
    · exact Or.inl h
    · exact absurd h y2
    · exact Or.inr h
  · intro ho
    rcases h.on e hE y (by simp) ho with h | h
    · exact y1 h.symm
    · exact y2 h.symm
  · exact h.xs e hE (y, c) (by rw [E_ear]; simp)
  · exact h.xs e hE (a, y) (by rw [E_ear]; simp)
theorem Simp.cut {a y c : Pt} {M : List Pt} (h : Simp (a :: y :: c :: M)) (he : Ear (a :: y :: c :: M) a y c) (hM : M ≠ []) : Simp (a :: c :: M) := by
  have hD : 0 < turn c a y := by rw [turn_rot, turn_rot]; exact he.1
  have hn := h.nd
  simp only [List.nodup_cons, List.mem_cons, not_or] at hn
  obtain ⟨⟨n1, n2, n3⟩, ⟨n4, n5⟩, n6, n7⟩ := hn
  refine ⟨?_, ?_, ?_, ?_⟩
  · simp only [List.nodup_cons, List.mem_cons, not_or]
    exact ⟨⟨n2, n3⟩, n6, n7⟩
  · cases M with
    | nil => exact absurd rfl hM
    | cons => simp
  · intro e hE p hp ho
    have hpl : p ∈ a :: y :: c :: M := by
      rcases List.mem_cons.mp hp with h | h
      · rw [h]; exact List.mem_cons_self
      · exact List.mem_cons_of_mem _ (List.mem_cons_of_mem _ h)
    rw [E_cut] at hE
    rcases List.mem_cons.mp hE with h' | h'
    · subst h'
      have hi : InT c a y p := On.inT hD (ho.comm)
      rcases he.2 p hpl hi.rot with e1 | e1 | e1
      · exact Or.inl e1
      · subst e1
        rcases List.mem_cons.mp hp with h | h
        · exact absurd h.symm n1
        · rcases List.mem_cons.mp h with h | h
          · exact absurd h n4
          · exact absurd h n5
      · exact Or.inr e1
    · exact h.on e (List.mem_cons_of_mem _ (List.mem_cons_of_mem _ h')) p hpl ho
  · intro e hE f hF
    rw [E_cut] at hE hF
    rcases List.mem_cons.mp hE with h' | h' <;> rcases List.mem_cons.mp hF with h'' | h''
    · subst h'; subst h''
      rintro ⟨h1, _⟩
      simp only [turn_aba, Int.zero_mul] at h1
      omega
    · subst h'
      exact noT_x he.1 (ear_off h he h'')
    · subst h''
      exact fun hx => noT_x he.1 (ear_off h he h') hx.symm
    · exact h.xs e (List.mem_cons_of_mem _ (List.mem_cons_of_mem _ h')) f (List.mem_cons_of_mem _ (List.mem_cons_of_mem _ h''))
/-- the winding of the rest is the same all over the triangle, off the side ac -/
theorem ear_const {a y c q r : Pt} {M : List Pt} (h : Simp (a :: y :: c :: M)) (he : Ear (a :: y :: c :: M) a y c)
    (hq : InT a y c q) (hq' : 0 < turn c a q) (hr : InT a y c r) (hr' : 0 < turn c a r) : wi (a :: c :: M) q = wi (a :: c :: M) r := by
  apply wi_const
  intro e hE
  rw [E_cut] at hE
  rcases List.mem_cons.mp hE with h' | h'
  · subst h'
    exact fun hm => noT_ac hq' hr' hm.symm
  · exact fun hm => noT_seg he.1 (ear_off h he h') hq hq' hr hr' hm.symm
theorem InT_y {a y c : Pt} (h : 0 < turn a y c) : InT a y c y ∧ 0 < turn c a y := by
  have e : turn c a y = turn a y c := by rw [turn_rot, turn_rot]
  refine ⟨⟨?_, ?_, ?_⟩, ?_⟩
  · rw [turn_abb]; exact Int.le_refl _
  · rw [turn_aba]; exact Int.le_refl _
  · omega
  · omega
end GE

set_option linter.all false
set_option maxHeartbeats 1000000
/-! GF: the same in large; close by; across the cut. -/
namespace GE
open PG (Pt turn onB)
def sc (N : Int) (p : Pt) : Pt := (N * p.1, N * p.2)
theorem path_map (f : Pt → Pt) : ∀ (L : List Pt) (a : Pt), path (f a) (L.map f) = (path a L).map fun e => (f e.1, f e.2)
  | [], _ => rfl
  | c :: L, a => by
    show (f a, f c) :: path (f c) (L.map f) = _
    rw [path_map f L c]; rfl
theorem E_map (f : Pt → Pt) : ∀ l : List Pt, E (l.map f) = (E l).map fun e => (f e.1, f e.2)
  | [] => rfl
  | v :: L => by
    show path (f v) (L.map f ++ [f v]) = (path v (L ++ [v])).map _
    have : L.map f ++ [f v] = (L ++ [v]).map f := by simp
    rw [this, path_map]
theorem turn_sc (N : Int) (a b c : Pt) : turn (sc N a) (sc N b) (sc N c) = N * N * turn a b c := by unfold turn sc; grind
theorem dt_sc (N : Int) (a b c : Pt) : dt (sc N a) (sc N b) (sc N c) = N * N * dt a b c := by unfold dt sc; grind
theorem mul_le_iff {N x y : Int} (h : 0 < N) : N * x ≤ N * y ↔ x ≤ y := by
  constructor
  · intro h1
    exact Int.le_of_mul_le_mul_left h1 h
  · intro h1
    exact Int.mul_le_mul_of_nonneg_left h1 (by omega)
theorem mul_pos_iff {N x : Int} (h : 0 < N) : 0 < N * x ↔ 0 < x := ⟨sgn_pos h, Int.mul_pos h⟩
theorem mul_neg_iff {N x : Int} (h : 0 < N) : N * x < 0 ↔ x < 0 := ⟨sgn_neg h, pn h⟩
theorem mul_nn_iff {N x : Int} (h : 0 < N) : 0 ≤ N * x ↔ 0 ≤ x := ⟨sgn_nn h, Int.mul_nonneg (by omega)⟩
theorem sc_inj {N : Int} (h : 0 < N) {p q : Pt} (e : sc N p = sc N q) : p = q := by
  have e1 : N * p.1 = N * q.1 := congrArg Prod.fst e
  have e2 : N * p.2 = N * q.2 := congrArg Prod.snd e
  exact Prod.ext (Int.eq_of_mul_eq_mul_left (by omega) e1) (Int.eq_of_mul_eq_mul_left (by omega) e2)
theorem cr_sc {N : Int} (h : 0 < N) (a b q : Pt) : cr (sc N a) (sc N b) (sc N q) = cr a b q := by
  have hNN := Int.mul_pos h h
  have e1 := mul_le_iff (x := a.2) (y := q.2) h
  have e2 := mul_le_iff (x := b.2) (y := q.2) h
  have e3 := mul_pos_iff (x := turn a b q) hNN
  have e4 := mul_neg_iff (x := turn a b q) hNN
  unfold cr
  rw [turn_sc]
  show (if N * a.2 ≤ N * q.2 ∧ N * q.2 < N * b.2 ∧ _ then (1 : Int) else if N * b.2 ≤ N * q.2 ∧ N * q.2 < N * a.2 ∧ _ then -1 else 0) = _
  have c1 : (N * a.2 ≤ N * q.2 ∧ N * q.2 < N * b.2 ∧ 0 < N * N * turn a b q) ↔ (a.2 ≤ q.2 ∧ q.2 < b.2 ∧ 0 < turn a b q) := by omega
  have c2 : (N * b.2 ≤ N * q.2 ∧ N * q.2 < N * a.2 ∧ N * N * turn a b q < 0) ↔ (b.2 ≤ q.2 ∧ q.2 < a.2 ∧ turn a b q < 0) := by omega
  simp only [c1, c2]
theorem wi_sc {N : Int} (h : 0 < N) (l : List Pt) (q : Pt) : wi (l.map (sc N)) (sc N q) = wi l q := by
  unfold wi wE
  rw [E_map, List.map_map]
  congr 1
  apply List.map_congr_left
  intro e _
  exact cr_sc h e.1 e.2 q
theorem On_sc {N : Int} (h : 0 < N) (a b c : Pt) : On (sc N a) (sc N b) (sc N c) ↔ On a b c := by
  have hNN := Int.mul_pos h h
  unfold On
  rw [turn_sc, dt_sc]
  constructor
  · rintro ⟨h1, h2⟩; exact ⟨sgn_z hNN h1, sgn_np hNN h2⟩
  · rintro ⟨h1, h2⟩; exact ⟨by rw [h1, Int.mul_zero], pn' (by omega) h2⟩
theorem Xs_sc {N : Int} (h : 0 < N) (a b c d : Pt) : Xs (sc N a) (sc N b) (sc N c) (sc N d) ↔ Xs a b c d := by
  have hNN := Int.mul_pos (Int.mul_pos h h) (Int.mul_pos h h)
  have e : ∀ x y : Int, N * N * x * (N * N * y) = (N * N * (N * N)) * (x * y) := by intro x y; grind
  unfold Xs
  rw [turn_sc, turn_sc, turn_sc, turn_sc, e, e, mul_neg_iff hNN, mul_neg_iff hNN]
theorem InT_sc {N : Int} (h : 0 < N) (a b c q : Pt) : InT (sc N a) (sc N b) (sc N c) (sc N q) ↔ InT a b c q := by
  have hNN := Int.mul_pos h h
  unfold InT
  rw [turn_sc, turn_sc, turn_sc, mul_nn_iff hNN, mul_nn_iff hNN, mul_nn_iff hNN]
theorem Simp.sc {l : List Pt} (h : Simp l) {N : Int} (hN : 0 < N) : Simp (l.map (sc N)) := by
  refine ⟨?_, ?_, ?_, ?_⟩
  · exact List.Pairwise.map _ (fun a b hab e => hab (sc_inj hN e)) h.nd
  · rw [List.length_map]; exact h.len
  · intro e he p hp ho
    rw [E_map] at he
    obtain ⟨e', he', rfl⟩ := List.mem_map.mp he
    obtain ⟨p', hp', rfl⟩ := List.mem_map.mp hp
    rcases h.on e' he' p' hp' ((On_sc hN _ _ _).mp ho) with h1 | h1
    · exact Or.inl (congrArg _ h1)
    · exact Or.inr (congrArg _ h1)
  · intro e he f hf hx
    rw [E_map] at he hf
    obtain ⟨e', he', rfl⟩ := List.mem_map.mp he
    obtain ⟨f', hf', rfl⟩ := List.mem_map.mp hf
    exact h.xs e' he' f' hf' ((Xs_sc hN _ _ _ _).mp hx)
theorem Ear.sc {l : List Pt} {a y c : Pt} (h : Ear l a y c) {N : Int} (hN : 0 < N) : Ear (l.map (sc N)) (sc N a) (sc N y) (sc N c) := by
  refine ⟨by rw [turn_sc]; exact Int.mul_pos (Int.mul_pos hN hN) h.1, ?_⟩
  intro p hp hi
  obtain ⟨p', hp', rfl⟩ := List.mem_map.mp hp
  rcases h.2 p' hp' ((InT_sc hN _ _ _ _).mp hi) with h1 | h1 | h1
  · exact Or.inl (congrArg _ h1)
  · exact Or.inr (Or.inl (congrArg _ h1))
  · exact Or.inr (Or.inr (congrArg _ h1))
/-! close by a point -/
def pl (N : Int) (m d : Pt) : Pt := (N * m.1 + d.1, N * m.2 + d.2)
def mi (N : Int) (m d : Pt) : Pt := (N * m.1 - d.1, N * m.2 - d.2)
theorem near1 {s t m : Pt} (h : ¬ On s t m) (d : Pt) : ∃ N0 : Int, ∀ N, N0 ≤ N → 0 < N → ¬ Mt (sc N s) (sc N t) (pl N m d) (mi N m d) := by
  by_cases h0 : turn s t m = 0
  · -- beyond an end
    have hd : 0 < dt s t m := by
      by_cases h1 : 0 < dt s t m
      · exact h1
      · exact absurd ⟨h0, by omega⟩ h
    by_cases hst : s = t
    · -- one point
      subst hst
      refine ⟨(m.1 - s.1).natAbs + (m.2 - s.2).natAbs + ((m.1 - s.1) * d.1 + (m.2 - s.2) * d.2).natAbs + 1, ?_⟩
      rintro N hN hN' ⟨α, β, l, k, p1, p2, p3, p4, p5, p6, p7, p8⟩
      unfold sc pl mi at p7 p8
      simp only at p7 p8
      generalize hg : (m.1 - s.1) * d.1 + (m.2 - s.2) * d.2 = g at hN
      have e : (l + k) * (N * dt s s m) + (l - k) * g = 0 := by
        rw [← hg]
        have u1 : (α + β) * (N * s.1) = (l + k) * (N * m.1) + (l - k) * d.1 := by clear hN hg; grind
        have u2 : (α + β) * (N * s.2) = (l + k) * (N * m.2) + (l - k) * d.2 := by clear hN hg; grind
        rw [p6] at u1 u2
        unfold dt
        have v1 : (l + k) * (N * (s.1 - m.1)) = (l - k) * d.1 := by rw [Int.mul_sub, Int.mul_sub]; omega
        have v2 : (l + k) * (N * (s.2 - m.2)) = (l - k) * d.2 := by rw [Int.mul_sub, Int.mul_sub]; omega
        have v3 : (l + k) * (N * ((s.1 - m.1) * (s.1 - m.1) + (s.2 - m.2) * (s.2 - m.2))) = ((l + k) * (N * (s.1 - m.1))) * (s.1 - m.1) + ((l + k) * (N * (s.2 - m.2))) * (s.2 - m.2) := by clear hN hg; grind
        rw [v3, v1, v2]; clear hN hg; grind
      have q1 : N ≤ N * dt s s m := by
        have := Int.mul_nonneg (show 0 ≤ N by omega) (show 0 ≤ dt s s m - 1 by omega)
        rw [Int.mul_sub] at this; omega
      generalize N * dt s s m = X at e q1
      have q2 : 0 ≤ l * (X + g) := Int.mul_nonneg p3 (by omega)
      have q3 : 0 ≤ k * (X - g) := Int.mul_nonneg p4 (by omega)
      have q4 : l * (X + g) + k * (X - g) = (l + k) * X + (l - k) * g := by clear hN q1; grind
      rcases Int.lt_or_le 0 l with hl | hl
      · have := Int.mul_pos hl (show 0 < X + g by omega); omega
      · have := Int.mul_pos (show 0 < k by omega) (show 0 < X - g by omega); omega
    · have hL : 0 < (t.1 - s.1) * (t.1 - s.1) + (t.2 - s.2) * (t.2 - s.2) := by
        have e1 := sq_nn (t.1 - s.1); have e2 := sq_nn (t.2 - s.2)
        by_cases hx : s.1 = t.1
        · have : s.2 ≠ t.2 := fun hy => hst (Prod.ext hx hy)
          have := sq_pos (show t.2 - s.2 ≠ 0 by omega)
          omega
        · have := sq_pos (show t.1 - s.1 ≠ 0 by omega)
          omega
      generalize hLL : (t.1 - s.1) * (t.1 - s.1) + (t.2 - s.2) * (t.2 - s.2) = L at hL
      generalize hX : (m.1 - s.1) * (t.1 - s.1) + (m.2 - s.2) * (t.2 - s.2) = X
      have id1 : X * (X - L) = L * dt s t m - turn s t m * turn s t m := by rw [← hLL, ← hX]; unfold turn dt; grind
      rw [h0] at id1
      have := Int.mul_pos hL hd
      have hXX : X < 0 ∨ L < X := by
        rcases Int.lt_or_le X 0 with h | h
        · exact Or.inl h
        · rcases Int.lt_or_le L X with h' | h'
          · exact Or.inr h'
          · have := pn' h (show X - L ≤ 0 by omega); omega
      refine ⟨((t.1 - s.1) * d.1 + (t.2 - s.2) * d.2).natAbs + 1, ?_⟩
      rintro N hN hN' ⟨α, β, l, k, p1, p2, p3, p4, p5, p6, p7, p8⟩
      unfold sc pl mi at p7 p8
      simp only at p7 p8
      generalize hg : (t.1 - s.1) * d.1 + (t.2 - s.2) * d.2 = g at hN
      -- along the line
      have e : β * (N * L) = l * (N * X + g) + k * (N * X - g) := by
        have u1 : β * (N * (t.1 - s.1)) = (l + k) * (N * (m.1 - s.1)) + (l - k) * d.1 := by
          have : (α + β) * (N * s.1) = (l + k) * (N * s.1) := by rw [p6]
          clear hN hg id1; grind
        have u2 : β * (N * (t.2 - s.2)) = (l + k) * (N * (m.2 - s.2)) + (l - k) * d.2 := by
          have : (α + β) * (N * s.2) = (l + k) * (N * s.2) := by rw [p6]
          clear hN hg id1; grind
        have u3 : β * (N * L) = (β * (N * (t.1 - s.1))) * (t.1 - s.1) + (β * (N * (t.2 - s.2))) * (t.2 - s.2) := by rw [← hLL]; clear hN hg id1; grind
        rw [u3, u1, u2, ← hX, ← hg]
        clear hN id1 u1 u2 u3 p7 p8 hd h0 this hXX hg hX hLL
        grind
      have q0 : 0 ≤ β * (N * L) := Int.mul_nonneg p2 (Int.mul_nonneg (by omega) (by omega))
      have q0' : 0 ≤ α * (N * L) := Int.mul_nonneg p1 (Int.mul_nonneg (by omega) (by omega))
      rcases hXX with hx | hx
      · have b : N * X ≤ -N := by
          have := pn' (show 0 ≤ N by omega) (show X + 1 ≤ 0 by omega)
          rw [Int.mul_add] at this; omega
        generalize N * X = Z at b e
        have q1 := pn' p3 (show Z + g ≤ 0 by omega)
        have q2 := pn' p4 (show Z - g ≤ 0 by omega)
        rcases Int.lt_or_le 0 l with hl | hl
        · have := pn hl (show Z + g < 0 by omega); omega
        · have := pn (show 0 < k by omega) (show Z - g < 0 by omega); omega
      · have b : N ≤ N * X - N * L := by
          have := Int.mul_nonneg (show 0 ≤ N by omega) (show 0 ≤ X - L - 1 by omega)
          rw [Int.mul_sub, Int.mul_sub] at this; omega
        generalize N * X = Z at b e
        generalize hNL : N * L = Y at b e q0 q0'
        have e' : l * (Z - Y + g) + k * (Z - Y - g) = - (α * Y) := by
          have : (α + β) * Y = (l + k) * Y := by rw [p6]
          clear hN b; grind
        have q1 := Int.mul_nonneg p3 (show 0 ≤ Z - Y + g by omega)
        have q2 := Int.mul_nonneg p4 (show 0 ≤ Z - Y - g by omega)
        rcases Int.lt_or_le 0 l with hl | hl
        · have := Int.mul_pos hl (show 0 < Z - Y + g by omega); omega
        · have := Int.mul_pos (show 0 < k by omega) (show 0 < Z - Y - g by omega); omega
  · refine ⟨((t.1 - s.1) * d.2 - (t.2 - s.2) * d.1).natAbs + 1, ?_⟩
    rintro N hN hN' ⟨α, β, l, k, w⟩
    have e := w.turn (sc N s) (sc N t)
    rw [turn_aba, turn_abb] at e
    obtain ⟨p1, p2, p3, p4, p5, p6, _⟩ := w
    generalize hg : (t.1 - s.1) * d.2 - (t.2 - s.2) * d.1 = g at hN
    have t1 : turn (sc N s) (sc N t) (pl N m d) = N * (N * turn s t m + g) := by rw [← hg]; unfold sc pl turn; grind
    have t2 : turn (sc N s) (sc N t) (mi N m d) = N * (N * turn s t m - g) := by rw [← hg]; unfold sc mi turn; grind
    rw [t1, t2] at e
    have e' : l * (N * turn s t m + g) + k * (N * turn s t m - g) = 0 := by
      apply sgn_z hN'
      have : N * (l * (N * turn s t m + g) + k * (N * turn s t m - g)) = l * (N * (N * turn s t m + g)) + k * (N * (N * turn s t m - g)) := by clear hN e hg t1 t2; grind
      rw [this]; omega
    clear e t1 t2
    rcases Int.lt_or_gt_of_ne h0 with hx | hx
    · have b : N * turn s t m ≤ -N := by
        have := pn' (show 0 ≤ N by omega) (show turn s t m + 1 ≤ 0 by omega)
        rw [Int.mul_add] at this; omega
      generalize N * turn s t m = Z at b e'
      have q1 := pn' p3 (show Z + g ≤ 0 by omega)
      have q2 := pn' p4 (show Z - g ≤ 0 by omega)
      rcases Int.lt_or_le 0 l with hl | hl
      · have := pn hl (show Z + g < 0 by omega); omega
      · have := pn (show 0 < k by omega) (show Z - g < 0 by omega); omega
    · have b : N ≤ N * turn s t m := by
        have := Int.mul_nonneg (show 0 ≤ N by omega) (show 0 ≤ turn s t m - 1 by omega)
        rw [Int.mul_sub] at this; omega
      generalize N * turn s t m = Z at b e'
      have q1 := Int.mul_nonneg p3 (show 0 ≤ Z + g by omega)
      have q2 := Int.mul_nonneg p4 (show 0 ≤ Z - g by omega)
      rcases Int.lt_or_le 0 l with hl | hl
      · have := Int.mul_pos hl (show 0 < Z + g by omega); omega
      · have := Int.mul_pos (show 0 < k by omega) (show 0 < Z - g by omega); omega
theorem near {m : Pt} (d : Pt) : ∀ (S : List Ed), (∀ e ∈ S, ¬ On e.1 e.2 m) → ∃ N0 : Int, ∀ N, N0 ≤ N → 0 < N → ∀ e ∈ S, ¬ Mt (sc N e.1) (sc N e.2) (pl N m d) (mi N m d)
  | [], _ => ⟨0, fun _ _ _ e he => by cases he⟩
  | e :: S, h => by
    obtain ⟨N1, h1⟩ := near1 (h e List.mem_cons_self) d
    obtain ⟨N2, h2⟩ := near d S (fun f hf => h f (List.mem_cons_of_mem _ hf))
    refine ⟨N1.natAbs + N2.natAbs, fun N hN hN' f hf => ?_⟩
    rcases List.mem_cons.mp hf with hf | hf
    · subst hf; exact h1 N (by omega) hN'
    · exact h2 N (by omega) hN' f hf
end GE

set_option linter.all false
set_option maxHeartbeats 1000000
/-! GG: across the cut; the top corner. -/
namespace GE
open PG (Pt turn onB)
theorem len2_pos {a c : Pt} (h : a ≠ c) : 0 < (a.1 - c.1) * (a.1 - c.1) + (a.2 - c.2) * (a.2 - c.2) := by
  have e1 := sq_nn (a.1 - c.1); have e2 := sq_nn (a.2 - c.2)
  by_cases hx : a.1 = c.1
  · have : a.2 ≠ c.2 := fun hy => h (Prod.ext hx hy)
    have := sq_pos (show a.2 - c.2 ≠ 0 by omega)
    omega
  · have := sq_pos (show a.1 - c.1 ≠ 0 by omega)
    omega
theorem not_on {a b c : Pt} (h : ¬ On a b c) (h0 : turn a b c = 0) : 0 < dt a b c := by
  by_cases h1 : 0 < dt a b c
  · exact h1
  · exact absurd ⟨h0, by omega⟩ h
theorem mid_c {a c t : Pt} (hne : a ≠ c) (h1 : ¬ On c a t) (h2 : ¬ On c t a) : ¬ On (sc 2 c) (sc 2 t) (a.1 + c.1, a.2 + c.2) := by
  rintro ⟨g1, g2⟩
  have hN := len2_pos hne
  have e1 : turn (sc 2 c) (sc 2 t) (a.1 + c.1, a.2 + c.2) = 2 * turn c t a := by unfold turn sc; grind
  have t1 : turn c t a = 0 := by omega
  have t2 : turn c a t = 0 := by rw [turn_swap', t1]; rfl
  have d1 := not_on h1 t2
  have d2 := not_on h2 t1
  generalize hNN : (a.1 - c.1) * (a.1 - c.1) + (a.2 - c.2) * (a.2 - c.2) = N at hN
  generalize hX : (t.1 - c.1) * (a.1 - c.1) + (t.2 - c.2) * (a.2 - c.2) = X
  have i1 : X * (X - N) = N * dt c a t - turn c a t * turn c a t := by rw [← hNN, ← hX]; unfold turn dt; grind
  have i2 : dt c t a = N - X := by rw [← hNN, ← hX]; unfold dt; grind
  have i3 : dt (sc 2 c) (sc 2 t) (a.1 + c.1, a.2 + c.2) = N - 2 * X := by rw [← hNN, ← hX]; unfold dt sc; grind
  rw [t2] at i1
  have := Int.mul_pos hN d1
  have := pn (show 0 < X by omega) (show X - N < 0 by omega)
  omega
theorem On.mt2 {s t q r : Pt} (h : On s t r) (hn : s ≠ t) : Mt s t q r := by
  obtain ⟨α, β, h1, h2, h3, h4, h5⟩ := h.wt hn
  exact ⟨α, β, 0, α + β, h1, h2, by omega, by omega, h3, by omega, by rw [h4]; omega, by rw [h5]; omega⟩
theorem last_ne {a c : Pt} {M : List Pt} (hn : (a :: c :: M).Nodup) (hM : M ≠ []) {e : Ed} (he : e ∈ path c (M ++ [a])) :
    e.1 ≠ a ∧ e.2 ≠ c ∧ ¬ (e.1 = c ∧ e.2 = a) := by
  have m1 : e.1 ∈ c :: M := path_mem1 a M c he
  have m2 : e.2 ∈ M ++ [a] := (path_mem _ _ he).2
  have hn0 := hn
  simp only [List.nodup_cons, List.mem_cons, not_or] at hn
  obtain ⟨⟨n1, n2⟩, n3, n4⟩ := hn
  refine ⟨?_, ?_, ?_⟩
  · intro h; rw [h] at m1
    rcases List.mem_cons.mp m1 with h | h
    · exact n1 h
    · exact n2 h
  · intro h; rw [h] at m2
    rcases List.mem_append.mp m2 with h | h
    · exact n3 h
    · exact n1 (by have : c = a := by simpa using h
                   exact this.symm)
  · rintro ⟨h1, h2⟩
    match M, hM with
    | x :: M, _ =>
      have e1 : (c, x) ∈ E (a :: c :: x :: M) := by rw [E_cut]; exact List.mem_cons_of_mem _ List.mem_cons_self
      have e2 : (c, a) ∈ E (a :: c :: x :: M) := by
        have : (c, a) = e := (Prod.ext h1 h2).symm
        rw [this, E_cut]; exact List.mem_cons_of_mem _ he
      have := succ_uniq hn0 e1 e2
      subst this
      exact n2 List.mem_cons_self
/-- the middle of the cut lies on no side -/
theorem mid_off {a y c : Pt} {M : List Pt} (h : Simp (a :: y :: c :: M)) (he : Ear (a :: y :: c :: M) a y c) (hM : M ≠ []) :
    ∀ e ∈ E (a :: y :: c :: M), ¬ On (sc 2 e.1) (sc 2 e.2) (a.1 + c.1, a.2 + c.2) := by
  have h' := h.cut he hM
  have hac : a ≠ c := h'.ne (e := (a, c)) (by rw [E_cut]; exact List.mem_cons_self)
  have hacE : (a, c) ∈ E (a :: c :: M) := by rw [E_cut]; exact List.mem_cons_self
  intro e hE ho
  rw [E_ear] at hE
  have hD := he.1
  rcases List.mem_cons.mp hE with e1 | hE
  · subst e1
    have := ho.1
    have e2 : turn (sc 2 a) (sc 2 y) (a.1 + c.1, a.2 + c.2) = 2 * turn a y c := by unfold turn sc; grind
    simp only at this; omega
  · rcases List.mem_cons.mp hE with e1 | hE
    · subst e1
      have := ho.1
      have e2 : turn (sc 2 y) (sc 2 c) (a.1 + c.1, a.2 + c.2) = 2 * turn a y c := by unfold turn sc; grind
      simp only at this; omega
    · have hE' : e ∈ E (a :: c :: M) := by rw [E_cut]; exact List.mem_cons_of_mem _ hE
      have hne := h'.ne hE'
      obtain ⟨f1, f2, f3⟩ := last_ne h'.nd hM hE
      have am : a ∈ a :: c :: M := List.mem_cons_self
      have cm : c ∈ a :: c :: M := List.mem_cons_of_mem _ List.mem_cons_self
      by_cases c1 : e.1 = c
      · refine mid_c (t := e.2) hac ?_ ?_ (c1 ▸ ho)
        · intro o
          rcases h'.on (a, c) hacE e.2 (E_mem hE').2 o.comm with o | o
          · exact f3 ⟨c1, o⟩
          · exact f2 o
        · intro o
          rcases h'.on e hE' a am (by rw [c1]; exact o) with o | o
          · exact f1 o.symm
          · exact f3 ⟨c1, o.symm⟩
      · by_cases c2 : e.2 = a
        · have ho' : On (sc 2 a) (sc 2 e.1) (c.1 + a.1, c.2 + a.2) := by
            rw [Int.add_comm c.1, Int.add_comm c.2]; exact (c2 ▸ ho).comm
          refine mid_c (t := e.1) hac.symm ?_ ?_ ho'
          · intro o
            rcases h'.on (a, c) hacE e.1 (E_mem hE').1 o with o | o
            · exact f1 o
            · exact c1 o
          · intro o
            rcases h'.on e hE' c cm (by rw [c2]; exact o.comm) with o | o
            · exact c1 o.symm
            · exact f2 o.symm
        · have hn2 : sc 2 e.1 ≠ sc 2 e.2 := fun h => hne (sc_inj (by omega) h)
          obtain ⟨α, β, w1, w2, w3, w4, w5⟩ := ho.wt hn2
          unfold sc at w4 w5
          simp only at w4 w5
          have hm : Mt a c e.1 e.2 := ⟨α + β, α + β, 2 * α, 2 * β, by omega, by omega, by omega, by omega, by omega, by omega, by clear w5; grind, by clear w4; grind⟩
          rcases hm.dec hac hne with o | o | o | o | o
          · rcases h'.on (a, c) hacE _ (E_mem hE').1 o with o | o
            · exact f1 o
            · exact c1 o
          · rcases h'.on (a, c) hacE _ (E_mem hE').2 o with o | o
            · exact c2 o
            · exact f2 o
          · rcases h'.on e hE' _ am o with o | o
            · exact f1 o.symm
            · exact c2 o.symm
          · rcases h'.on e hE' _ cm o with o | o
            · exact c1 o.symm
            · exact f2 o.symm
          · exact h'.xs _ hacE _ hE' o
theorem map_sc_sc (l : List Pt) (N K : Int) : (l.map (sc K)).map (sc N) = l.map (sc (N * K)) := by
  rw [List.map_map]
  apply List.map_congr_left
  intro p _
  show sc N (sc K p) = sc (N * K) p
  unfold sc; rw [Int.mul_assoc, Int.mul_assoc]
/-- just across the cut the rest winds once more -/
theorem jump {a y c : Pt} {M : List Pt} (h : Simp (a :: y :: c :: M)) (he : Ear (a :: y :: c :: M) a y c) (hM : M ≠ []) :
    ∃ (N : Int) (q : Pt), 0 < N ∧ (∀ e ∈ E ((a :: c :: M).map (sc N)), ¬ On e.1 e.2 q) ∧ wi ((a :: c :: M).map (sc N)) q = wi (a :: c :: M) y + 1 := by
  have hoff : ∀ e ∈ E ((a :: y :: c :: M).map (sc 2)), ¬ On e.1 e.2 (a.1 + c.1, a.2 + c.2) := by
    intro e hE
    rw [E_map] at hE
    obtain ⟨e', hE', rfl⟩ := List.mem_map.mp hE
    exact mid_off h he hM e' hE'
  obtain ⟨N0, hN0⟩ := near (y.1 - a.1, y.2 - a.2) _ hoff
  have hN1 : ∃ N : Int, N0 ≤ N ∧ 2 ≤ N := ⟨N0.natAbs + 2, by omega, by omega⟩
  obtain ⟨N, hN, hN2⟩ := hN1
  have hmt := hN0 N hN (by omega)
  have hK : 0 < N * 2 := by omega
  have hS := h.sc hK
  have hEr := he.sc hK
  generalize hq1 : pl N (a.1 + c.1, a.2 + c.2) (y.1 - a.1, y.2 - a.2) = q1 at hmt
  generalize hq2 : mi N (a.1 + c.1, a.2 + c.2) (y.1 - a.1, y.2 - a.2) = q2 at hmt
  have hmt' : ∀ e ∈ E ((a :: y :: c :: M).map (sc (N * 2))), ¬ Mt e.1 e.2 q1 q2 := by
    intro e hE
    rw [← map_sc_sc, E_map] at hE
    obtain ⟨e', hE', rfl⟩ := List.mem_map.mp hE
    exact hmt e' hE'
  have hc := wi_const hmt'
  have hD := he.1
  have hND : 0 < N * turn a y c := Int.mul_pos (by omega) hD
  have hNND : N * turn a y c + N * turn a y c ≤ N * (N * turn a y c) := by
    have := Int.mul_nonneg (show 0 ≤ N - 2 by omega) (show 0 ≤ N * turn a y c by omega)
    rw [Int.sub_mul] at this; omega
  have t1 : turn (sc (N * 2) a) (sc (N * 2) y) q1 = 2 * (N * (N * turn a y c)) := by rw [← hq1]; unfold turn sc pl; grind
  have t2 : turn (sc (N * 2) y) (sc (N * 2) c) q1 = 2 * (N * (N * turn a y c)) - 2 * (N * turn a y c) := by rw [← hq1]; unfold turn sc pl; grind
  have t3 : turn (sc (N * 2) c) (sc (N * 2) a) q1 = 2 * (N * turn a y c) := by rw [← hq1]; unfold turn sc pl; grind
  have t4 : turn (sc (N * 2) c) (sc (N * 2) a) q2 = - (2 * (N * turn a y c)) := by rw [← hq2]; unfold turn sc mi; grind
  have i1 := tri_in (a := sc (N * 2) a) (b := sc (N * 2) y) (c := sc (N * 2) c) (q := q1) (by omega) (by omega) (by omega)
  have i2 := tri_out (a := sc (N * 2) a) (b := sc (N * 2) y) (c := sc (N * 2) c) (q := q2) hEr.1 (fun hi => by have := hi.2.2; omega)
  have ww1 := wi_ear (sc (N * 2) a) (sc (N * 2) y) (sc (N * 2) c) (M.map (sc (N * 2))) q1
  have ww2 := wi_ear (sc (N * 2) a) (sc (N * 2) y) (sc (N * 2) c) (M.map (sc (N * 2))) q2
  have hy := InT_y hEr.1
  have k1 := ear_const hS hEr (q := q1) (r := sc (N * 2) y) ⟨by omega, by omega, by omega⟩ (by omega) hy.1 hy.2
  have k2 := wi_sc hK (a :: c :: M) y
  refine ⟨N * 2, q2, hK, ?_, ?_⟩
  · intro e hE ho
    have hE2 := hE
    rw [List.map_cons, List.map_cons, E_cut] at hE2
    rcases List.mem_cons.mp hE2 with h1 | h1
    · subst h1
      have := ho.comm.1
      simp only at this
      omega
    · have hE3 : e ∈ E ((a :: y :: c :: M).map (sc (N * 2))) := List.mem_cons_of_mem _ (List.mem_cons_of_mem _ h1)
      exact hmt' e hE3 (ho.mt2 (hS.ne hE3))
  · simp only [List.map_cons] at hc k2 ww1 ww2 k1 ⊢
    omega
/-! the top corner -/
def Top (v : Pt) (l : List Pt) : Prop := v ∈ l ∧ ∀ p ∈ l, p = v ∨ p.2 < v.2 ∨ (p.2 = v.2 ∧ p.1 < v.1)
def OrP (l : List Pt) : Prop := ∃ u v w, Top v l ∧ (u, v) ∈ E l ∧ (v, w) ∈ E l ∧ 0 < turn u v w
def OrN (l : List Pt) : Prop := ∃ u v w, Top v l ∧ (u, v) ∈ E l ∧ (v, w) ∈ E l ∧ turn u v w < 0
theorem Top.rot {v : Pt} {l m : List Pt} (h : Top v l) (hr : Rot l m) : Top v m := ⟨(hr.mem v).mp h.1, fun p hp => h.2 p ((hr.mem p).mpr hp)⟩
theorem OrP.rot {l m : List Pt} (h : OrP l) (hr : Rot l m) : OrP m := by
  obtain ⟨u, v, w, h1, h2, h3, h4⟩ := h
  exact ⟨u, v, w, h1.rot hr, (hr.memE _).mp h2, (hr.memE _).mp h3, h4⟩
theorem Top_ex : ∀ (l : List Pt), l ≠ [] → ∃ v, Top v l
  | [], h => absurd rfl h
  | [a], _ => ⟨a, List.mem_cons_self, fun p hp => Or.inl (by simpa using hp)⟩
  | a :: b :: l, _ => by
    obtain ⟨v, h1, h2⟩ := Top_ex (b :: l) (by simp)
    by_cases h : a.2 < v.2 ∨ (a.2 = v.2 ∧ a.1 < v.1)
    · refine ⟨v, List.mem_cons_of_mem _ h1, fun p hp => ?_⟩
      rcases List.mem_cons.mp hp with e | e
      · subst e; exact Or.inr h
      · exact h2 p e
    · refine ⟨a, List.mem_cons_self, fun p hp => ?_⟩
      rcases List.mem_cons.mp hp with e | e
      · exact Or.inl e
      · have := h2 p e
        by_cases hpa : p = a
        · exact Or.inl hpa
        · right
          rcases this with e | e | e
          · subst e
            have : p.1 ≠ a.1 ∨ p.2 ≠ a.2 := by
              by_cases e1 : p.1 = a.1
              · exact Or.inr fun e2 => hpa (Prod.ext e1 e2)
              · exact Or.inl e1
            omega
          · omega
          · omega
theorem wE_zero (q : Pt) : ∀ (S : List Ed), (∀ e ∈ S, cr e.1 e.2 q = 0) → wE S q = 0
  | [], _ => rfl
  | e :: S, h => by
    rw [wE_cons, h e List.mem_cons_self, wE_zero q S fun f hf => h f (List.mem_cons_of_mem _ hf)]; rfl
theorem cr_high {a b q : Pt} (h1 : a.2 ≤ q.2) (h2 : b.2 ≤ q.2) : cr a b q = 0 := by
  unfold cr; rw [if_neg (by omega), if_neg (by omega)]
theorem top_wi {v : Pt} {l : List Pt} (h : ∀ p ∈ l, p.2 ≤ v.2) : wi l v = 0 :=
  wE_zero v _ fun e he => cr_high (h _ (E_mem he).1) (h _ (E_mem he).2)
theorem Top.le {v p : Pt} {l : List Pt} (h : Top v l) (hp : p ∈ l) : p.2 ≤ v.2 := by
  rcases h.2 p hp with e | e | e
  · rw [e]; exact Int.le_refl _
  · omega
  · omega
theorem top_ne {l : List Pt} (h : Simp l) {u v w : Pt} (ht : Top v l) (h1 : (u, v) ∈ E l) (h2 : (v, w) ∈ E l) : turn u v w ≠ 0 := by
  intro h0
  obtain ⟨M, hM⟩ := Rot_two h.nd h.len h1 h2
  have hn := hM.nodup.mp h.nd
  simp only [List.nodup_cons, List.mem_cons, not_or] at hn
  obtain ⟨⟨n1, n2, n3⟩, ⟨n4, n5⟩, n6, n7⟩ := hn
  have hu := ht.2 u (E_mem h1).1
  have hw := ht.2 w (E_mem h2).2
  have hu' : u.2 < v.2 ∨ (u.2 = v.2 ∧ u.1 < v.1) := by rcases hu with e | e; exact absurd e n1; exact e
  have hw' : w.2 < v.2 ∨ (w.2 = v.2 ∧ w.1 < v.1) := by rcases hw with e | e; exact absurd e.symm n4; exact e
  have k1 : ¬ On u v w := by
    intro o
    rcases h.on _ h1 w (E_mem h2).2 o with e | e
    · exact n2 e.symm
    · exact n4 e.symm
  have k2 : ¬ On v w u := by
    intro o
    rcases h.on _ h2 u (E_mem h1).1 o with e | e
    · exact n1 e
    · exact n2 e
  have d1 := not_on k1 h0
  have d2 := not_on k2 (by rw [turn_rot]; exact h0)
  unfold turn at h0
  -- p = u - v, r = w - v
  have hp : ∃ p1 p2 r1 r2 : Int, p1 = u.1 - v.1 ∧ p2 = u.2 - v.2 ∧ r1 = w.1 - v.1 ∧ r2 = w.2 - v.2 := ⟨_, _, _, _, rfl, rfl, rfl, rfl⟩
  obtain ⟨p1, p2, r1, r2, a1, a2, a3, a4⟩ := hp
  have par : p1 * r2 = p2 * r1 := by subst a1 a2 a3 a4; grind
  have e1 : dt u v w = r1 * r1 + r2 * r2 - (p1 * r1 + p2 * r2) := by subst a1 a2 a3 a4; unfold dt; grind
  have e2 : dt v w u = p1 * p1 + p2 * p2 - (p1 * r1 + p2 * r2) := by subst a1 a2 a3 a4; unfold dt; grind
  have g1 : p2 < 0 ∨ (p2 = 0 ∧ p1 < 0) := by omega
  have g2 : r2 < 0 ∨ (r2 = 0 ∧ r1 < 0) := by omega
  have hpos : 0 < p1 * r1 + p2 * r2 := by
    rcases g1 with g1 | ⟨g1, g1'⟩
    · rcases g2 with g2 | ⟨g2, g2'⟩
      · have x := nn g1 g2
        have y : 0 ≤ (p2 * r2) * (p1 * r1) := by
          have : (p2 * r2) * (p1 * r1) = (p1 * r2) * (p1 * r2) := by clear e1 e2 h0; grind
          rw [this]; exact sq_nn _
        have := sgn_nn x y
        omega
      · rw [g2, Int.mul_zero] at par
        have := nn g1 g2'; omega
    · rw [g1, Int.zero_mul] at par
      rcases g2 with g2 | ⟨g2, g2'⟩
      · have := nn g1' g2; omega
      · have := nn g1' g2'
        rw [g1]; omega
  have lag : (p1 * p1 + p2 * p2) * (r1 * r1 + r2 * r2) = (p1 * r1 + p2 * r2) * (p1 * r1 + p2 * r2) := by
    have : (p1 * p1 + p2 * p2) * (r1 * r1 + r2 * r2) = (p1 * r1 + p2 * r2) * (p1 * r1 + p2 * r2) + (p1 * r2 - p2 * r1) * (p1 * r2 - p2 * r1) := by clear e1 e2 h0 par; grind
    rw [this, par, Int.sub_self]; omega
  rw [e1] at d1
  rw [e2] at d2
  generalize p1 * r1 + p2 * r2 = G at *
  generalize p1 * p1 + p2 * p2 = P at *
  generalize r1 * r1 + r2 * r2 = R at *
  have x1 := Int.mul_pos (show 0 < P by omega) (show 0 < R - G by omega)
  have x2 := Int.mul_pos hpos (show 0 < P - G by omega)
  rw [Int.mul_sub] at x1 x2
  have : P * G = G * P := Int.mul_comm _ _
  omega
theorem OrP_or_OrN {l : List Pt} (h : Simp l) : OrP l ∨ OrN l := by
  have hne : l ≠ [] := by intro e; have := h.len; rw [e] at this; simp at this
  obtain ⟨v, hv⟩ := Top_ex l hne
  obtain ⟨u, hu⟩ := E_pred hv.1
  obtain ⟨w, hw⟩ := E_succ hv.1
  rcases Int.lt_or_gt_of_ne (top_ne h hv hu hw) with h0 | h0
  · exact Or.inr ⟨u, v, w, hv, hu, hw, h0⟩
  · exact Or.inl ⟨u, v, w, hv, hu, hw, h0⟩
/-- cutting another ear leaves the way round -/
theorem OrP_cut {a y c : Pt} {M : List Pt} (h : Simp (a :: y :: c :: M)) (he : Ear (a :: y :: c :: M) a y c) (hM : M ≠ [])
    (ho : ∃ u v w, Top v (a :: y :: c :: M) ∧ (u, v) ∈ E (a :: y :: c :: M) ∧ (v, w) ∈ E (a :: y :: c :: M) ∧ 0 < turn u v w ∧ v ≠ y) : OrP (a :: c :: M) := by
  obtain ⟨u, v, w, h1, h2, h3, h4, h5⟩ := ho
  have h' := h.cut he hM
  have hn := h.nd
  simp only [List.nodup_cons, List.mem_cons, not_or] at hn
  obtain ⟨⟨n1, n2, n3⟩, ⟨n4, n5⟩, n6, n7⟩ := hn
  have hsub : ∀ p ∈ a :: c :: M, p ∈ a :: y :: c :: M := by
    intro p hp
    rcases List.mem_cons.mp hp with h | h
    · rw [h]; exact List.mem_cons_self
    · exact List.mem_cons_of_mem _ (List.mem_cons_of_mem _ h)
  have hv' : v ∈ a :: c :: M := by
    rcases List.mem_cons.mp h1.1 with h | h
    · rw [h]; exact List.mem_cons_self
    · rcases List.mem_cons.mp h with h | h
      · exact absurd h h5
      · exact List.mem_cons_of_mem _ h
  have ht : Top v (a :: c :: M) := ⟨hv', fun p hp => h1.2 p (hsub p hp)⟩
  have hE1 : (a, y) ∈ E (a :: y :: c :: M) := by rw [E_ear]; simp
  have hE2 : (y, c) ∈ E (a :: y :: c :: M) := by rw [E_ear]; simp
  have in2 : v ≠ c → (u, v) ∈ path c (M ++ [a]) := by
    intro hvc
    rw [E_ear] at h2
    rcases List.mem_cons.mp h2 with e | e
    · exact absurd (Prod.mk.inj e).2 h5
    · rcases List.mem_cons.mp e with e | e
      · exact absurd (Prod.mk.inj e).2 hvc
      · exact e
  have in3 : v ≠ a → (v, w) ∈ path c (M ++ [a]) := by
    intro hva
    rw [E_ear] at h3
    rcases List.mem_cons.mp h3 with e | e
    · exact absurd (Prod.mk.inj e).1 hva
    · rcases List.mem_cons.mp e with e | e
      · exact absurd (Prod.mk.inj e).1 h5
      · exact e
  have hD := he.1
  by_cases hva : v = a
  · subst hva
    have hw := succ_uniq h.nd h3 hE1
    subst hw
    have hu := in2 n2
    have hu2 := last_ne h'.nd hM hu
    have huy : u ≠ w := by
      intro e; subst e
      have := (E_mem (l := v :: c :: M) (e := (u, v)) (by rw [E_cut]; exact List.mem_cons_of_mem _ hu)).1
      simp only [List.mem_cons] at this
      rcases this with h | h | h
      · exact hu2.1 h
      · exact n4 h
      · exact n5 h
    refine ⟨u, v, c, ht, by rw [E_cut]; exact List.mem_cons_of_mem _ hu, by rw [E_cut]; exact List.mem_cons_self, ?_⟩
    by_cases hp : 0 < turn u v c
    · exact hp
    exfalso
    have uC : 0 < turn v w u := by rw [turn_rot]; exact h4
    have uY : turn c v u = - turn u v c := by rw [turn_swap, turn_rot]
    have uA : turn w c u < 0 := by
      by_cases hA : turn w c u < 0
      · exact hA
      · rcases he.2 u (E_mem h2).1 ⟨by omega, by omega, by omega⟩ with e | e | e
        · exact absurd e hu2.1
        · exact absurd e huy
        · exact absurd ⟨e, rfl⟩ hu2.2.2
    have cv : turn w c v = turn v w c := turn_rot v w c
    rcases Int.lt_or_eq_of_le (show turn u v c ≤ 0 by omega) with h0 | h0
    · refine h.xs _ h2 _ hE2 ⟨?_, ?_⟩
      · exact pn h4 h0
      · simp only; rw [Int.mul_comm, cv]; exact pn hD uA
    · have hon : On u v c := by
        refine on_opp (c := w) h0 ?_
        rw [turn_swap w c u, turn_swap w c v, Int.neg_mul_neg, cv, Int.mul_comm]
        exact pn hD uA
      rcases h'.on _ (by rw [E_cut]; exact List.mem_cons_of_mem _ hu) c (by simp) hon with e | e
      · exact hu2.2.2 ⟨e.symm, rfl⟩
      · exact n2 e.symm
  · by_cases hvc : v = c
    · subst hvc
      have hu := pred_uniq h.nd h2 hE2
      subst hu
      have hw := in3 hva
      have hw2 := last_ne h'.nd hM hw
      have hwy : w ≠ u := by
        intro e; subst e
        have := (E_mem (l := a :: v :: M) (e := (v, w)) (by rw [E_cut]; exact List.mem_cons_of_mem _ hw)).2
        simp only [List.mem_cons] at this
        rcases this with h | h | h
        · exact n1 h.symm
        · exact n4 h
        · exact n5 h
      refine ⟨a, v, w, ht, by rw [E_cut]; exact List.mem_cons_self, by rw [E_cut]; exact List.mem_cons_of_mem _ hw, ?_⟩
      by_cases hp : 0 < turn a v w
      · exact hp
      exfalso
      have wY : turn v a w = - turn a v w := turn_swap a v w
      have wC : turn a u w < 0 := by
        by_cases hC : turn a u w < 0
        · exact hC
        · rcases he.2 w (E_mem h3).2 ⟨by omega, by omega, by omega⟩ with e | e | e
          · exact absurd ⟨rfl, e⟩ hw2.2.2
          · exact absurd e hwy
          · exact absurd e hw2.2.1
      have r1 : turn v w a = turn a v w := turn_rot a v w
      have r2 : turn v w u = turn u v w := turn_rot u v w
      rcases Int.lt_or_eq_of_le (show turn a v w ≤ 0 by omega) with h0 | h0
      · refine h.xs _ h3 _ hE1 ⟨?_, ?_⟩
        · simp only; rw [r1, r2, Int.mul_comm]; exact pn h4 h0
        · exact pn hD wC
      · have hon : On v w a := by
          refine on_opp (c := u) (by rw [r1]; exact h0) ?_
          exact pn hD wC
        rcases h'.on _ (by rw [E_cut]; exact List.mem_cons_of_mem _ hw) a (by simp) hon with e | e
        · exact hva e.symm
        · exact hw2.2.2 ⟨rfl, e.symm⟩
    · exact ⟨u, v, w, ht, by rw [E_cut]; exact List.mem_cons_of_mem _ (in2 hvc), by rw [E_cut]; exact List.mem_cons_of_mem _ (in3 hva), h4⟩
end GE

set_option linter.all false
set_option maxHeartbeats 1000000
/-! GH: turned about; the triangle at an ear is inside. -/
namespace GE
open PG (Pt turn onB)
def sw (e : Ed) : Ed := (e.2, e.1)
theorem path_rev (b : Pt) : ∀ (L : List Pt) (a : Pt), ((path a (L ++ [b])).map sw).reverse = path b (L.reverse ++ [a])
  | [], a => rfl
  | c :: L, a => by
    show (sw (a, c) :: (path c (L ++ [b])).map sw).reverse = _
    rw [List.reverse_cons, path_rev b L c, List.reverse_cons, path_app [a] (L.reverse ++ [c]) b, en_snoc]
    rfl
def rev : List Pt → List Pt
  | [] => []
  | v :: L => v :: L.reverse
theorem E_rev : ∀ l : List Pt, E (rev l) = ((E l).map sw).reverse
  | [] => rfl
  | v :: L => (path_rev v L v).symm
theorem rev_perm : ∀ l : List Pt, l.Perm (rev l)
  | [] => List.Perm.refl _
  | v :: L => (List.reverse_perm L).symm.cons v
theorem E_rev_perm (l : List Pt) : (E (rev l)).Perm ((E l).map sw) := by rw [E_rev]; exact List.reverse_perm _
theorem memE_rev {l : List Pt} {e : Ed} (h : e ∈ E (rev l)) : sw e ∈ E l := by
  obtain ⟨f, hf, he⟩ := List.mem_map.mp ((E_rev_perm l).mem_iff.mp h)
  subst he; exact hf
theorem memE_rev' {l : List Pt} {e : Ed} (h : e ∈ E l) : sw e ∈ E (rev l) := (E_rev_perm l).mem_iff.mpr (List.mem_map_of_mem h)
theorem wi_rev (l : List Pt) (q : Pt) : wi (rev l) q = - wi l q := by
  unfold wi
  rw [wE_perm (E_rev_perm l)]
  generalize E l = S
  induction S with
  | nil => rfl
  | cons e S ih =>
    rw [List.map_cons, wE_cons, wE_cons, ih]
    show cr e.2 e.1 q + _ = _
    rw [cr_anti]; omega
theorem Simp.rev {l : List Pt} (h : Simp l) : Simp (rev l) := by
  refine ⟨(rev_perm l).nodup_iff.mp h.nd, by rw [← (rev_perm l).length_eq]; exact h.len, ?_, ?_⟩
  · intro e he p hp ho
    rcases h.on _ (memE_rev he) p ((rev_perm l).mem_iff.mpr hp) ho.comm with e | e
    · exact Or.inr e
    · exact Or.inl e
  · intro e he f hf hx
    exact h.xs _ (memE_rev he) _ (memE_rev hf) (hx.swap.symm.swap.symm)
theorem Top.rev {l : List Pt} {v : Pt} (h : Top v l) : Top v (rev l) := ⟨(rev_perm l).mem_iff.mp h.1, fun p hp => h.2 p ((rev_perm l).mem_iff.mpr hp)⟩
theorem OrN.rev {l : List Pt} (h : OrN l) : OrP (rev l) := by
  obtain ⟨u, v, w, h1, h2, h3, h4⟩ := h
  refine ⟨w, v, u, h1.rev, memE_rev' h3, memE_rev' h2, ?_⟩
  have : turn w v u = - turn u v w := by unfold turn; grind
  omega
theorem OrP.rev {l : List Pt} (h : OrP l) : OrN (rev l) := by
  obtain ⟨u, v, w, h1, h2, h3, h4⟩ := h
  refine ⟨w, v, u, h1.rev, memE_rev' h3, memE_rev' h2, ?_⟩
  have : turn w v u = - turn u v w := by unfold turn; grind
  omega
theorem Top.sc {l : List Pt} {v : Pt} (h : Top v l) {N : Int} (hN : 0 < N) : Top (sc N v) (l.map (sc N)) := by
  refine ⟨List.mem_map_of_mem h.1, fun p hp => ?_⟩
  obtain ⟨p, hp', rfl⟩ := List.mem_map.mp hp
  rcases h.2 p hp' with e | e | ⟨e, e'⟩
  · exact Or.inl (congrArg _ e)
  · right; left
    show N * p.2 < N * v.2
    exact Int.mul_lt_mul_of_pos_left e hN
  · right; right
    refine ⟨?_, ?_⟩
    · show N * p.2 = N * v.2
      rw [e]
    · show N * p.1 < N * v.1
      exact Int.mul_lt_mul_of_pos_left e' hN
theorem memE_sc {l : List Pt} {a b : Pt} (h : (a, b) ∈ E l) (N : Int) : (sc N a, sc N b) ∈ E (l.map (sc N)) := by
  rw [E_map]; exact List.mem_map_of_mem (f := fun e : Ed => (GE.sc N e.1, GE.sc N e.2)) h
theorem OrP.sc {l : List Pt} (h : OrP l) {N : Int} (hN : 0 < N) : OrP (l.map (sc N)) := by
  obtain ⟨u, v, w, h1, h2, h3, h4⟩ := h
  exact ⟨_, _, _, h1.sc hN, memE_sc h2 N, memE_sc h3 N, by rw [turn_sc]; exact Int.mul_pos (Int.mul_pos hN hN) h4⟩
theorem OrN.sc {l : List Pt} (h : OrN l) {N : Int} (hN : 0 < N) : OrN (l.map (sc N)) := by
  obtain ⟨u, v, w, h1, h2, h3, h4⟩ := h
  exact ⟨_, _, _, h1.sc hN, memE_sc h2 N, memE_sc h3 N, by rw [turn_sc]; exact pn (Int.mul_pos hN hN) h4⟩
def Offl (l : List Pt) (q : Pt) : Prop := ∀ e ∈ E l, ¬ On e.1 e.2 q
def S01 (l : List Pt) : Prop := ∀ q, Offl l q → wi l q = 0 ∨ wi l q = 1
theorem Offl.rot {l m : List Pt} {q : Pt} (h : Offl l q) (hr : Rot l m) : Offl m q := fun e he => h e ((hr.memE e).mpr he)
theorem Offl.rev {l : List Pt} {q : Pt} (h : Offl l q) : Offl (rev l) q := fun e he ho => h _ (memE_rev he) ho.comm
/-- all smaller rings wind once or not at all -/
def AllS (n : Nat) : Prop := ∀ l : List Pt, Simp l → OrP l → l.length = n → S01 l
theorem OrP_top {u v w : Pt} {M : List Pt} (h : Simp (u :: v :: w :: M)) (he : Ear (u :: v :: w :: M) u v w) (hM : M ≠ [])
    (ht : Top v (u :: v :: w :: M)) (hA : AllS (u :: w :: M).length) : OrP (u :: w :: M) := by
  have h' := h.cut he hM
  rcases OrP_or_OrN h' with ho | ho
  · exact ho
  exfalso
  obtain ⟨N, q, hN, hq, hw⟩ := jump h he hM
  have h0 : wi (u :: w :: M) v = 0 := by
    apply top_wi
    intro p hp
    apply ht.le
    rcases List.mem_cons.mp hp with e | e
    · rw [e]; exact List.mem_cons_self
    · exact List.mem_cons_of_mem _ (List.mem_cons_of_mem _ e)
  have k := hA (rev ((u :: w :: M).map (sc N))) (h'.sc hN).rev (ho.sc hN).rev (by rw [← (rev_perm _).length_eq, List.length_map]) q (Offl.rev hq)
  rw [wi_rev] at k
  omega
/-- the triangle at an ear is off the rest -/
theorem ear_zero {a y c : Pt} {M : List Pt} (h : Simp (a :: y :: c :: M)) (he : Ear (a :: y :: c :: M) a y c) (hM : M ≠ [])
    (ho : OrP (a :: c :: M)) (hA : AllS (a :: c :: M).length) : wi (a :: c :: M) y = 0 := by
  have h' := h.cut he hM
  obtain ⟨N, q, hN, hq, hw⟩ := jump h he hM
  have k := hA ((a :: c :: M).map (sc N)) (h'.sc hN) (ho.sc hN) (by rw [List.length_map]) q hq
  have k2 := hA (a :: c :: M) h' ho rfl y ?_
  · omega
  · have hy := InT_y he.1
    intro e hE hon
    rw [E_cut] at hE
    rcases List.mem_cons.mp hE with h1 | h1
    · subst h1
      have := hon.comm.1
      simp only at this
      omega
    · exact noT_on he.1 (ear_off h he h1) (h.ne (List.mem_cons_of_mem _ (List.mem_cons_of_mem _ h1))) hy.1 hy.2 hon
/-- the corners of the triangle, off the cut -/
theorem ear_in {a y c q : Pt} {M : List Pt} (h : Simp (a :: y :: c :: M)) (he : Ear (a :: y :: c :: M) a y c)
    (h0 : wi (a :: c :: M) y = 0) (hq : InT a y c q) (hq' : 0 < turn c a q) (ho : Offl (a :: y :: c :: M) q) : wi (a :: y :: c :: M) q = 1 := by
  have hy := InT_y he.1
  have k := ear_const h he hq hq' hy.1 hy.2
  rw [wi_ear, k, h0]
  have e1 : 0 < turn a y q := by
    rcases Int.lt_or_eq_of_le hq.1 with h1 | h1
    · exact h1
    · exact absurd (hq.on he.1 h1.symm) (ho (a, y) (by rw [E_ear]; simp))
  have e2 : 0 < turn y c q := by
    rcases Int.lt_or_eq_of_le hq.2.1 with h1 | h1
    · exact h1
    · exact absurd (hq.rot.on (by rw [turn_rot]; exact he.1) h1.symm) (ho (y, c) (by rw [E_ear]; simp))
  rw [tri_in e1 e2 hq']; rfl
theorem ear_in' {a y c q : Pt} {M : List Pt} (h : Simp (a :: y :: c :: M)) (he : Ear (a :: y :: c :: M) a y c)
    (h0 : wi (a :: c :: M) y = 0) (hq : InT a y c q) (ho : Offl (a :: y :: c :: M) q) : wi (a :: y :: c :: M) q = 1 := by
  by_cases hq' : 0 < turn c a q
  · exact ear_in h he h0 hq hq' ho
  have hY0 : turn c a q = 0 := by have := hq.2.2; omega
  have hD := he.1
  have e1 : 0 < turn a y q := by
    rcases Int.lt_or_eq_of_le hq.1 with h1 | h1
    · exact h1
    · exact absurd (hq.on he.1 h1.symm) (ho (a, y) (by rw [E_ear]; simp))
  have e2 : 0 < turn y c q := by
    rcases Int.lt_or_eq_of_le hq.2.1 with h1 | h1
    · exact h1
    · exact absurd (hq.rot.on (by rw [turn_rot]; exact he.1) h1.symm) (ho (y, c) (by rw [E_ear]; simp))
  have h2 : (0 : Int) < 2 := by omega
  have hS := h.sc h2
  have hEr := he.sc h2
  have y1 : turn (sc 2 a) (sc 2 y) (q.1 + y.1, q.2 + y.2) = 2 * turn a y q := by unfold turn sc; grind
  have y2 : turn (sc 2 y) (sc 2 c) (q.1 + y.1, q.2 + y.2) = 2 * turn y c q := by unfold turn sc; grind
  have y3 : turn (sc 2 c) (sc 2 a) (q.1 + y.1, q.2 + y.2) = 2 * turn c a q + 2 * turn a y c := by unfold turn sc; grind
  have x1 : turn (sc 2 a) (sc 2 y) (sc 2 q) = 4 * turn a y q := by rw [turn_sc]; rfl
  have x2 : turn (sc 2 y) (sc 2 c) (sc 2 q) = 4 * turn y c q := by rw [turn_sc]; rfl
  have x3 : turn (sc 2 c) (sc 2 a) (sc 2 q) = 4 * turn c a q := by rw [turn_sc]; rfl
  generalize hr : (q.1 + y.1, q.2 + y.2) = r at y1 y2 y3
  have hrT : InT (sc 2 a) (sc 2 y) (sc 2 c) r := ⟨by omega, by omega, by omega⟩
  have hoffR : ∀ e ∈ path (sc 2 c) (M.map (sc 2) ++ [sc 2 a]), ¬ On e.1 e.2 (sc 2 q) ∧ sc 2 q = sc 2 q ∧ e.1 ≠ e.2 := by
    intro e hE
    have hE2 : e ∈ E ((a :: y :: c :: M).map (sc 2)) := List.mem_cons_of_mem _ (List.mem_cons_of_mem _ hE)
    refine ⟨?_, rfl, hS.ne hE2⟩
    rw [E_map] at hE2
    obtain ⟨e', hE', rfl⟩ := List.mem_map.mp hE2
    intro o
    exact ho e' hE' ((On_sc h2 _ _ _).mp o)
  have hmt : ∀ e ∈ E ((a :: y :: c :: M).map (sc 2)), ¬ Mt e.1 e.2 (sc 2 q) r := by
    intro e hE
    rw [List.map_cons, List.map_cons, List.map_cons, E_ear] at hE
    rcases List.mem_cons.mp hE with h1 | h1
    · subst h1
      intro hm
      refine noT_ac (a := sc 2 y) (c := sc 2 a) (q := sc 2 q) (r := r) (by omega) (by omega) hm.symm.swap'
    · rcases List.mem_cons.mp h1 with h1 | h1
      · subst h1
        intro hm
        refine noT_ac (a := sc 2 c) (c := sc 2 y) (q := sc 2 q) (r := r) (by omega) (by omega) hm.symm.swap'
      · rintro ⟨α, β, l, m, w⟩
        have u1 := w.turn (sc 2 a) (sc 2 y)
        have u2 := w.turn (sc 2 y) (sc 2 c)
        have u3 := w.turn (sc 2 c) (sc 2 a)
        rw [x1, y1] at u1
        rw [x2, y2] at u2
        rw [x3, y3, hY0] at u3
        have w' := w
        obtain ⟨p1, p2, p3, p4, p5, p6, p7, p8⟩ := w
        by_cases hm : 0 < m
        · refine noT hEr.1 (ear_off hS hEr h1) p1 p2 ?_ ?_ ?_
          · rw [u2]
            have := Int.mul_nonneg p3 (show 0 ≤ 4 * turn y c q by omega)
            have := Int.mul_nonneg p4 (show 0 ≤ 2 * turn y c q by omega)
            omega
          · rw [u1]
            have := Int.mul_nonneg p3 (show 0 ≤ 4 * turn a y q by omega)
            have := Int.mul_nonneg p4 (show 0 ≤ 2 * turn a y q by omega)
            omega
          · rw [u3]
            have := Int.mul_pos hm (show 0 < 2 * 0 + 2 * turn a y c by omega)
            omega
        · have hm0 : m = 0 := by omega
          subst hm0
          refine (hoffR e h1).1 (On_of_wt p1 p2 p5 ?_ ?_)
          · rw [p7, p6, Int.add_zero]; omega
          · rw [p8, p6, Int.add_zero]; omega
  have hc := wi_const hmt
  have h0' : wi ((a :: c :: M).map (sc 2)) (sc 2 y) = 0 := by rw [wi_sc h2]; exact h0
  have hoff : Offl ((a :: y :: c :: M).map (sc 2)) r := by
    intro e hE o
    exact hmt e hE (o.mt2 (hS.ne hE))
  have k := ear_in hS hEr h0' hrT (by omega) hoff
  rw [wi_sc h2] at hc
  simp only [List.map_cons] at hc k
  omega
end GE

set_option linter.all false
set_option maxHeartbeats 1000000
/-! GI: ears, and the inside, of every ring: by a diagonal from the top corner. -/
namespace GE
open PG (Pt turn onB)
def Ear1 (l : List Pt) : Prop := ∀ e0 ∈ E l, ∃ a y c, (a, y) ∈ E l ∧ (y, c) ∈ E l ∧ y ≠ e0.1 ∧ y ≠ e0.2 ∧ Ear l a y c ∧ ∀ q, InT a y c q → Offl l q → wi l q = 1
theorem Ear.rot {l m : List Pt} {a y c : Pt} (h : Ear l a y c) (hr : Rot l m) : Ear m a y c := ⟨h.1, fun p hp => h.2 p ((hr.mem p).mpr hp)⟩
theorem Ear1.rot {l m : List Pt} (h : Ear1 l) (hr : Rot l m) : Ear1 m := by
  intro e0 he0
  obtain ⟨a, y, c, h1, h2, h3, h4, h5, h6⟩ := h e0 ((hr.memE e0).mpr he0)
  exact ⟨a, y, c, (hr.memE _).mp h1, (hr.memE _).mp h2, h3, h4, h5.rot hr, fun q hq ho => by rw [← hr.wi]; exact h6 q hq (ho.rot hr.symm)⟩
theorem max_ex {P : Pt → Prop} (f : Pt → Int) : ∀ (l : List Pt), (∃ p ∈ l, P p) → ∃ z ∈ l, P z ∧ ∀ p ∈ l, P p → f p ≤ f z
  | [], h => by obtain ⟨p, hp, _⟩ := h; cases hp
  | a :: l, h => by
    by_cases hl : ∃ p ∈ l, P p
    · obtain ⟨z, hz, hPz, hm⟩ := max_ex f l hl
      by_cases ha : P a ∧ f z ≤ f a
      · refine ⟨a, List.mem_cons_self, ha.1, fun p hp hP => ?_⟩
        rcases List.mem_cons.mp hp with e | e
        · rw [e]; exact Int.le_refl _
        · have := hm p e hP; omega
      · refine ⟨z, List.mem_cons_of_mem _ hz, hPz, fun p hp hP => ?_⟩
        rcases List.mem_cons.mp hp with e | e
        · subst e
          by_cases h0 : f z ≤ f p
          · exact absurd ⟨hP, h0⟩ ha
          · omega
        · exact hm p e hP
    · obtain ⟨p, hp, hP⟩ := h
      rcases List.mem_cons.mp hp with e | e
      · subst e
        refine ⟨p, List.mem_cons_self, hP, fun q hq hQ => ?_⟩
        rcases List.mem_cons.mp hq with e | e
        · rw [e]; exact Int.le_refl _
        · exact absurd ⟨q, e, hQ⟩ hl
      · exact absurd ⟨p, e, hP⟩ hl
/-! three corners -/
theorem tri_S {u v w q : Pt} (hD : 0 < turn u v w) (ho : Offl [u, v, w] q) : (InT u v w q → wi [u, v, w] q = 1) ∧ (¬ InT u v w q → wi [u, v, w] q = 0) := by
  have hw : wi [u, v, w] q = cr u v q + cr v w q + cr w u q := by
    unfold wi E path wE
    simp [path]
    omega
  rw [hw]
  constructor
  · intro h
    have e1 : 0 < turn u v q := by
      rcases Int.lt_or_eq_of_le h.1 with h1 | h1
      · exact h1
      · exact absurd (h.on hD h1.symm) (ho (u, v) (by simp [E, path]))
    have e2 : 0 < turn v w q := by
      rcases Int.lt_or_eq_of_le h.2.1 with h1 | h1
      · exact h1
      · exact absurd (h.rot.on (by rw [turn_rot]; exact hD) h1.symm) (ho (v, w) (by simp [E, path]))
    have e3 : 0 < turn w u q := by
      rcases Int.lt_or_eq_of_le h.2.2 with h1 | h1
      · exact h1
      · exact absurd (h.rot.rot.on (by rw [turn_rot, turn_rot]; exact hD) h1.symm) (ho (w, u) (by simp [E, path]))
    exact tri_in e1 e2 e3
  · exact tri_out hD
theorem tri_main {u v w : Pt} (hD : 0 < turn u v w) : Ear1 [u, v, w] ∧ S01 [u, v, w] := by
  constructor
  · intro e0 he0
    have hE : E [u, v, w] = [(u, v), (v, w), (w, u)] := rfl
    have hsub : ∀ a y c : Pt, (∀ q, InT a y c q → InT u v w q) → ∀ q, InT a y c q → Offl [u, v, w] q → wi [u, v, w] q = 1 :=
      fun a y c hi q hq ho => (tri_S hD ho).1 (hi q hq)
    have hd1 : u ≠ v := by intro e; subst e; rw [turn_aab] at hD; omega
    have hd2 : v ≠ w := by intro e; subst e; rw [turn_abb] at hD; omega
    have hd3 : u ≠ w := by intro e; subst e; rw [turn_aba] at hD; omega
    rw [hE] at he0
    simp only [List.mem_cons, List.not_mem_nil, or_false] at he0
    rcases he0 with e | e | e
    · refine ⟨v, w, u, by simp [hE], by simp [hE], by rw [e]; exact hd3.symm, by rw [e]; exact hd2.symm, ⟨by rw [turn_rot]; exact hD, fun p hp _ => ?_⟩, hsub _ _ _ fun q hq => hq.rot.rot⟩
      simp only [List.mem_cons, List.not_mem_nil, or_false] at hp
      rcases hp with h | h | h <;> simp [h]
    · refine ⟨w, u, v, by simp [hE], by simp [hE], by rw [e]; exact hd1, by rw [e]; exact hd3, ⟨by rw [turn_rot, turn_rot]; exact hD, fun p hp _ => ?_⟩, hsub _ _ _ fun q hq => hq.rot⟩
      simp only [List.mem_cons, List.not_mem_nil, or_false] at hp
      rcases hp with h | h | h <;> simp [h]
    · refine ⟨u, v, w, by simp [hE], by simp [hE], by rw [e]; exact hd2, by rw [e]; exact hd1.symm, ⟨hD, fun p hp _ => ?_⟩, hsub _ _ _ fun q hq => hq⟩
      simp only [List.mem_cons, List.not_mem_nil, or_false] at hp
      rcases hp with h | h | h <;> simp [h]
  · intro q ho
    by_cases h : InT u v w q
    · exact Or.inr ((tri_S hD ho).1 h)
    · exact Or.inl ((tri_S hD ho).2 h)
/-! the diagonal -/
theorem pos_A {l : List Pt} (h : Simp l) {u v w z : Pt} (h1 : (u, v) ∈ E l) (h2 : (v, w) ∈ E l) (hD : 0 < turn u v w) (hz : z ∈ l) (zu : z ≠ u) (zv : z ≠ v) (zw : z ≠ w) (hi : InT u v w z) :
    0 < turn u v z ∧ 0 < turn v w z := by
  constructor
  · rcases Int.lt_or_eq_of_le hi.1 with h0 | h0
    · exact h0
    · rcases h.on _ h1 z hz (hi.on hD h0.symm) with e | e
      · exact absurd e zu
      · exact absurd e zv
  · rcases Int.lt_or_eq_of_le hi.2.1 with h0 | h0
    · exact h0
    · rcases h.on _ h2 z hz (hi.rot.on (by rw [turn_rot]; exact hD) h0.symm) with e | e
      · exact absurd e zv
      · exact absurd e zw
theorem diag1 {l : List Pt} (h : Simp l) {u v w z : Pt} (h1 : (u, v) ∈ E l) (h2 : (v, w) ∈ E l) (hD : 0 < turn u v w) (hz : z ∈ l) (zu : z ≠ u) (zv : z ≠ v) (zw : z ≠ w) (hi : InT u v w z)
    (hmax : ∀ p ∈ l, (p ≠ u ∧ p ≠ v ∧ p ≠ w ∧ InT u v w p) → turn w u p ≤ turn w u z) : ∀ p ∈ l, On v z p → p = v ∨ p = z := by
  intro p hp ho
  obtain ⟨α, β, w1, w2, w3, w4, w5⟩ := ho.wt zv.symm
  have W : ∀ x y : Pt, α * turn x y v + β * turn x y z = (α + β) * turn x y p := by
    intro x y; unfold turn; grind
  have hA := pos_A h h1 h2 hD hz zu zv zw hi
  have k1 := W u v
  have k2 := W v w
  have k3 := W w u
  rw [turn_abb] at k1
  rw [turn_aba] at k2
  have e3 : turn w u v = turn u v w := by rw [turn_rot, turn_rot]
  rw [e3] at k3
  have g1 : 0 ≤ turn u v p := sgn_nn w3 (by rw [← k1]; have := Int.mul_nonneg w2 hi.1; omega)
  have g2 : 0 ≤ turn v w p := sgn_nn w3 (by rw [← k2]; have := Int.mul_nonneg w2 hi.2.1; omega)
  have g3 : 0 ≤ turn w u p := sgn_nn w3 (by
    rw [← k3]; have := Int.mul_nonneg w2 hi.2.2; have := Int.mul_nonneg w1 (Int.le_of_lt hD); omega)
  by_cases hpv : p = v
  · exact Or.inl hpv
  right
  have hle : turn w u p ≤ turn w u z := by
    by_cases c1 : p = u
    · rw [c1, turn_abb]; exact hi.2.2
    · by_cases c2 : p = w
      · rw [c2, turn_aba]; exact hi.2.2
      · exact hmax p hp ⟨c1, hpv, c2, g1, g2, g3⟩
  have hs := bary_sum u v w z
  have hlt : 0 < turn u v w - turn w u z := by omega
  have hα : α = 0 := by
    by_cases h0 : 0 < α
    · exfalso
      have q1 := Int.mul_pos h0 hlt
      have q2 := Int.mul_nonneg (show 0 ≤ α + β by omega) (show 0 ≤ turn w u z - turn w u p by omega)
      rw [Int.mul_sub] at q1 q2
      rw [← k3, Int.add_mul] at q2
      omega
    · omega
  subst hα
  rw [Int.zero_mul, Int.zero_add, Int.zero_add] at w4 w5
  exact (Prod.ext (Int.eq_of_mul_eq_mul_left (by omega) w4) (Int.eq_of_mul_eq_mul_left (by omega) w5)).symm
theorem Xs.mt {a b s t : Pt} (h : Xs a b s t) : ∃ α β l m : Int, 0 < α ∧ 0 < β ∧ 0 < l ∧ 0 < m ∧ Wt a b s t α β l m := by
  obtain ⟨h1, h2⟩ := h
  have e0 := turn_sum a b s t
  have e1 := turn_v1 a b s t
  have e2 := turn_v2 a b s t
  rcases neg_of_mul h1 with ⟨u1, u2⟩ | ⟨u1, u2⟩
  · rcases neg_of_mul h2 with ⟨v1, v2⟩ | ⟨v1, v2⟩
    · omega
    · exact ⟨- turn s t b, turn s t a, turn a b t, - turn a b s, by omega, by omega, by omega, by omega, by omega, by omega, by omega, by omega, by omega, by omega, by grind, by grind⟩
  · rcases neg_of_mul h2 with ⟨v1, v2⟩ | ⟨v1, v2⟩
    · exact ⟨turn s t b, - turn s t a, - turn a b t, turn a b s, by omega, by omega, by omega, by omega, by omega, by omega, by omega, by omega, by omega, by omega, by grind, by grind⟩
    · omega
theorem diag2 {l : List Pt} (h : Simp l) {u v w z : Pt} (h1 : (u, v) ∈ E l) (h2 : (v, w) ∈ E l) (hD : 0 < turn u v w) (hz : z ∈ l) (zu : z ≠ u) (zv : z ≠ v) (zw : z ≠ w) (hi : InT u v w z)
    (hmax : ∀ p ∈ l, (p ≠ u ∧ p ≠ v ∧ p ≠ w ∧ InT u v w p) → turn w u p ≤ turn w u z) : ∀ e ∈ E l, ¬ Xs v z e.1 e.2 := by
  have hA := pos_A h h1 h2 hD hz zu zv zw hi
  have hs := bary_sum u v w z
  have e3 : turn w u v = turn u v w := by rw [turn_rot, turn_rot]
  have vl : v ∈ l := (E_mem h1).2
  -- one end farther
  have key : ∀ s t : Pt, s ∈ l → t ∈ l → (∀ f ∈ E l, ¬ Xs s t f.1 f.2) → (On s t v → v = s ∨ v = t) → Xs v z s t → turn w u t ≤ turn w u s → False := by
    intro s t hs' ht' hx hov hX hle
    obtain ⟨α, β, m1, m2, a1, a2, a3, a4, W⟩ := hX.mt
    have k1 := W.turn u v
    have k2 := W.turn v w
    have k3 := W.turn w u
    obtain ⟨_, _, _, _, _, p6, _, _⟩ := W
    rw [turn_abb] at k1
    rw [turn_aba] at k2
    rw [e3] at k3
    have sv : s ≠ v := by
      intro e; subst e
      have := hX.1
      rw [turn_aba] at this; omega
    have tv : t ≠ v := by
      intro e; subst e
      have := hX.1
      rw [turn_aba] at this; omega
    have q1 := Int.mul_nonneg (Int.le_of_lt a2) hi.1
    have q2 := Int.mul_nonneg (Int.le_of_lt a2) hi.2.1
    have q3 := Int.mul_nonneg (Int.le_of_lt a2) hi.2.2
    have q4 := Int.mul_pos a1 hD
    have q5 := Int.mul_pos a1 (show 0 < turn u v w - turn w u z by omega)
    rw [Int.mul_sub] at q5
    -- Y s is more than Y z
    have hYs : turn w u z < turn w u s := by
      by_cases h0 : turn w u z < turn w u s
      · exact h0
      · exfalso
        have r1 := Int.mul_le_mul_of_nonneg_left (show turn w u s ≤ turn w u z by omega) (Int.le_of_lt a3)
        have r2 := Int.mul_le_mul_of_nonneg_left (show turn w u t ≤ turn w u z by omega) (Int.le_of_lt a4)
        have r3 : (α + β) * turn w u z = (m1 + m2) * turn w u z := by rw [p6]
        rw [Int.add_mul, Int.add_mul] at r3
        omega
    have hout : turn v w s < 0 ∨ turn u v s < 0 := by
      by_cases c1 : turn v w s < 0
      · exact Or.inl c1
      · by_cases c2 : turn u v s < 0
        · exact Or.inr c2
        · exfalso
          have hz0 := hi.2.2
          have cu : s ≠ u := by intro e; rw [e, turn_abb] at hYs; omega
          have cw : s ≠ w := by intro e; rw [e, turn_aba] at hYs; omega
          have := hmax s hs' ⟨cu, sv, cw, by omega, by omega, by omega⟩
          omega
    rcases exitT hD a3 a4 (by omega) (by omega) (by omega) hle hout with o | o | o
    · rcases hov o with e | e
      · exact sv e.symm
      · exact tv e.symm
    · exact hx _ h2 o
    · exact hx _ h1 o
  intro e he hX
  rcases Int.le_total (turn w u e.2) (turn w u e.1) with c | c
  · exact key e.1 e.2 (E_mem he).1 (E_mem he).2 (fun f hf => h.xs e he f hf) (fun o => h.on e he v vl o) hX c
  · refine key e.2 e.1 (E_mem he).2 (E_mem he).1 (fun f hf hx => h.xs e he f hf hx.swap) (fun o => (h.on e he v vl o.comm).symm) hX.symm.swap.symm c
theorem simp_sub {l m : List Pt} {v z : Pt} (h : Simp l) (hm : ∀ p ∈ m, p ∈ l) (hn : m.Nodup) (hl : 3 ≤ m.length)
    (hE : ∀ e ∈ E m, e ∈ E l ∨ e = (v, z) ∨ e = (z, v)) (d1 : ∀ p ∈ l, On v z p → p = v ∨ p = z) (d2 : ∀ e ∈ E l, ¬ Xs v z e.1 e.2) : Simp m := by
  refine ⟨hn, hl, ?_, ?_⟩
  · intro e he p hp ho
    rcases hE e he with k | k | k
    · exact h.on e k p (hm p hp) ho
    · subst k; exact d1 p (hm p hp) ho
    · subst k; exact (d1 p (hm p hp) ho.comm).symm
  · have selfv : ∀ a b : Pt, ¬ Xs a b a b := by
      rintro a b ⟨x, _⟩
      rw [turn_aba, Int.zero_mul] at x; omega
    intro e he f hf hx
    rcases hE e he with k | k | k <;> rcases hE f hf with k' | k' | k'
    · exact h.xs e k f k' hx
    · subst k'; exact d2 e k hx.symm
    · subst k'; exact d2 e k hx.symm.swap
    · subst k; exact d2 f k' hx
    · subst k k'; exact selfv _ _ hx
    · subst k k'; exact selfv _ _ (hx.symm.swap.symm)
    · subst k; exact d2 f k' hx.swap
    · subst k k'; exact selfv _ _ (hx.swap)
    · subst k k'; exact selfv _ _ hx
theorem path_const (f : Pt → Int) : ∀ (C : List Pt) (a : Pt), (∀ e ∈ path a C, f e.1 = f e.2) → ∀ p ∈ a :: C, f p = f (en a C)
  | [], a, _, p, hp => by
    have : p = a := by simpa using hp
    rw [this]; rfl
  | c :: C, a, h, p, hp => by
    have ih := path_const f C c fun e he => h e (List.mem_cons_of_mem _ he)
    rcases List.mem_cons.mp hp with e | e
    · rw [e, h (a, c) List.mem_cons_self]
      exact ih c List.mem_cons_self
    · exact ih p e
/-- an ear besides the top: its triangle is inside -/
theorem ear_inside {l : List Pt} (h : Simp l) {u v w a y c : Pt} (ht : Top v l) (h1 : (u, v) ∈ E l) (h2 : (v, w) ∈ E l) (hD : 0 < turn u v w)
    (k1 : (a, y) ∈ E l) (k2 : (y, c) ∈ E l) (he : Ear l a y c) (hvy : v ≠ y) (h4 : 4 ≤ l.length) (hA : AllS (l.length - 1)) :
    ∀ q, InT a y c q → Offl l q → wi l q = 1 := by
  obtain ⟨M, hM⟩ := Rot_two h.nd h.len k1 k2
  have hMne : M ≠ [] := by intro e; rw [hM.len, e] at h4; simp at h4
  have hS := h.rot hM
  have hE := he.rot hM
  have hO : OrP (a :: c :: M) := OrP_cut hS hE hMne ⟨u, v, w, ht.rot hM, (hM.memE _).mp h1, (hM.memE _).mp h2, hD, hvy⟩
  have hlen : l.length - 1 = (a :: c :: M).length := by rw [hM.len]; simp
  have h0 := ear_zero hS hE hMne hO (by rw [← hlen]; exact hA)
  intro q hq ho
  rw [hM.wi]
  exact ear_in' hS hE h0 hq (ho.rot hM)
end GE

set_option linter.all false
set_option maxHeartbeats 1000000
/-! GJ: every ring told with its inside to the left has ears, and winds once about its inside. -/
namespace GE
open PG (Pt turn onB)
theorem dec_off {l : List Pt} (h : Simp l) {s t : Pt} (hst : (s, t) ∈ E l) {g1 g2 : Pt} (hg : g1 ≠ g2) (m1 : g1 ∈ l) (m2 : g2 ∈ l)
    (a1 : g1 ≠ s) (a2 : g1 ≠ t) (a3 : g2 ≠ s) (a4 : g2 ≠ t) (o1 : ¬ On g1 g2 s) (o2 : ¬ On g1 g2 t) (x : ¬ Xs g1 g2 s t) : ¬ Mt g1 g2 s t := by
  intro hm
  rcases hm.dec hg (h.ne hst) with o | o | o | o | o
  · exact o1 o
  · exact o2 o
  · rcases h.on _ hst g1 m1 o with e | e
    · exact a1 e
    · exact a2 e
  · rcases h.on _ hst g2 m2 o with e | e
    · exact a3 e
    · exact a4 e
  · exact x o
theorem ph_zero {s t p : Pt} (h : 0 ≤ turn s t p) : ph s t p = 0 := by unfold ph; rw [if_neg (by omega)]
theorem num_u {u v w z : Pt} (h1 : u.2 ≤ v.2) (h2 : w.2 ≤ v.2) (h3 : z.2 ≤ v.2) (a1 : 0 < turn u v z) (a2 : 0 < turn u v w) :
    cr v w u + (phi u v z - phi u v w) + cr z v u = 0 := by
  have b1 : turn v w u = turn u v w := turn_rot u v w
  have b2 : turn z v u = - turn u v z := by unfold turn; grind
  have c1 : cr v w u = 0 := by
    unfold cr; rw [if_neg (by omega), if_neg (by omega)]
  have c2 : cr z v u = 0 := by
    unfold cr; rw [if_neg (by omega), if_neg (by omega)]
  unfold phi
  rw [if_pos h1, if_pos h1, ph_zero (by omega), ph_zero (by omega), c1, c2]; rfl
theorem num_w {u v w z : Pt} (h1 : u.2 ≤ v.2) (h2 : w.2 ≤ v.2) (h3 : z.2 ≤ v.2) (a1 : 0 < turn v w z) (a2 : 0 < turn u v w) :
    cr v z w + (phi w v u - phi w v z) + cr u v w = 0 := by
  have b1 : turn w v u = - turn u v w := by unfold turn; grind
  have b2 : turn w v z = - turn v w z := turn_swap v w z
  have b3 : turn v z w = - turn v w z := turn_swap' v w z
  unfold phi
  rw [if_pos h2, if_pos h2, cr_up h1, cr_anti z v w, cr_up h3]
  have b4 : turn z v w = turn v w z := (turn_rot z v w).symm
  unfold ph
  rw [b1, b2, b4]
  clear b1 b2 b3 b4
  split <;> split <;> split <;> split <;> omega
theorem case2 {u v w z : Pt} {C D : List Pt} (h : Simp (v :: (w :: C ++ z :: (D ++ [u])))) (ht : Top v (v :: (w :: C ++ z :: (D ++ [u]))))
    (hD : 0 < turn u v w) (hz : InT u v w z)
    (hmax : ∀ p ∈ v :: (w :: C ++ z :: (D ++ [u])), (p ≠ u ∧ p ≠ v ∧ p ≠ w ∧ InT u v w p) → turn w u p ≤ turn w u z)
    (IH : ∀ m : List Pt, m.length < (v :: (w :: C ++ z :: (D ++ [u]))).length → Simp m → OrP m → Ear1 m ∧ S01 m) : Ear1 (v :: (w :: C ++ z :: (D ++ [u]))) := by
  generalize hl : v :: (w :: C ++ z :: (D ++ [u])) = l at *
  have hEl : E l = path v (w :: C ++ [z]) ++ path z ((D ++ [u]) ++ [v]) := by
    rw [← hl]
    show path v ((w :: C ++ z :: (D ++ [u])) ++ [v]) = _
    have : (w :: C ++ z :: (D ++ [u])) ++ [v] = w :: C ++ z :: ((D ++ [u]) ++ [v]) := by simp
    rw [this, path_snoc]
  have hc2 : path z ((D ++ [u]) ++ [v]) = path z (D ++ [u]) ++ [(u, v)] := by
    rw [path_app, en_snoc]; rfl
  -- who is where
  have hnd := h.nd
  rw [← hl] at hnd
  have hnd2 : (v :: w :: C ++ [z]).Nodup ∧ (D ++ [u]).Nodup ∧ ∀ p ∈ v :: w :: C ++ [z], ∀ q ∈ D ++ [u], p ≠ q := by
    have e : v :: (w :: C ++ z :: (D ++ [u])) = (v :: w :: C ++ [z]) ++ (D ++ [u]) := by simp
    rw [e] at hnd
    exact List.nodup_append.mp hnd
  have hnd3 : (v :: z :: (D ++ [u])).Nodup ∧ (∀ p ∈ v :: z :: (D ++ [u]), ∀ q ∈ w :: C, p ≠ q) := by
    constructor
    · rw [List.nodup_cons] at hnd ⊢
      obtain ⟨n1, n2⟩ := hnd
      obtain ⟨n3, n4, n5⟩ := List.nodup_append.mp n2
      exact ⟨fun hm => n1 (List.mem_append_right _ hm), n4⟩
    · intro p hp q hq e
      rw [List.nodup_cons] at hnd
      obtain ⟨n1, n2⟩ := hnd
      obtain ⟨n3, n4, n5⟩ := List.nodup_append.mp n2
      rcases List.mem_cons.mp hp with hp | hp
      · exact n1 (by rw [← hp, e]; exact List.mem_append_left _ hq)
      · exact n5 q hq p hp e.symm
  obtain ⟨m1, m2, m3⟩ := hnd2
  obtain ⟨m4, m5⟩ := hnd3
  have in1 : ∀ p ∈ v :: w :: C ++ [z], p ∈ l := by
    intro p hp; rw [← hl]
    simp only [List.mem_cons, List.mem_append, List.cons_append, List.not_mem_nil, or_false] at hp ⊢
    rcases hp with h | h | h | h <;> simp [h]
  have in2 : ∀ p ∈ v :: z :: (D ++ [u]), p ∈ l := by
    intro p hp; rw [← hl]
    simp only [List.mem_cons, List.mem_append, List.cons_append, List.not_mem_nil, or_false] at hp ⊢
    rcases hp with h | h | h | h <;> simp [h]
  have inl : ∀ p ∈ l, p ∈ v :: w :: C ++ [z] ∨ p ∈ D ++ [u] := by
    intro p hp; rw [← hl] at hp
    simp only [List.mem_cons, List.mem_append, List.cons_append, List.not_mem_nil, or_false] at hp ⊢
    rcases hp with h | h | h | h | h | h <;> simp [h]
  have inl' : ∀ p ∈ l, p ∈ v :: z :: (D ++ [u]) ∨ p ∈ w :: C := by
    intro p hp; rw [← hl] at hp
    simp only [List.mem_cons, List.mem_append, List.cons_append, List.not_mem_nil, or_false] at hp ⊢
    rcases hp with h | h | h | h | h | h <;> simp [h]
  have hvw : (v, w) ∈ E l := by rw [hEl]; exact List.mem_append_left _ List.mem_cons_self
  have huv : (u, v) ∈ E l := by rw [hEl, hc2]; exact List.mem_append_right _ (List.mem_append_right _ (by simp))
  have zin1 : z ∈ v :: w :: C ++ [z] := by simp
  have uin2 : u ∈ D ++ [u] := by simp
  have zl : z ∈ l := in1 z zin1
  have zu : z ≠ u := m3 z zin1 u uin2
  have zv : z ≠ v := by
    intro e; rw [List.nodup_cons] at m4
    exact m4.1 (by rw [e]; exact List.mem_cons_self)
  have zw : z ≠ w := m5 z (by simp) w (by simp)
  have hA := pos_A h huv hvw hD zl zu zv zw hz
  have d1 := diag1 h huv hvw hD zl zu zv zw hz hmax
  have d2 := diag2 h huv hvw hD zl zu zv zw hz hmax
  -- the two parts
  have hE1 : E (v :: w :: C ++ [z]) = path v (w :: C ++ [z]) ++ [(z, v)] := by
    show path v ((w :: C ++ [z]) ++ [v]) = _
    rw [path_app, en_snoc]; rfl
  have hE2 : E (v :: z :: (D ++ [u])) = (v, z) :: path z ((D ++ [u]) ++ [v]) := rfl
  have sub1 : ∀ e ∈ E (v :: w :: C ++ [z]), e ∈ E l ∨ e = (v, z) ∨ e = (z, v) := by
    intro e he
    rw [hE1] at he
    rcases List.mem_append.mp he with h | h
    · left; rw [hEl]; exact List.mem_append_left _ h
    · right; right; simpa using h
  have sub2 : ∀ e ∈ E (v :: z :: (D ++ [u])), e ∈ E l ∨ e = (v, z) ∨ e = (z, v) := by
    intro e he
    rw [hE2] at he
    rcases List.mem_cons.mp he with h | h
    · right; left; exact h
    · left; rw [hEl]; exact List.mem_append_right _ h
  have S1 := simp_sub h in1 m1 (by simp) sub1 d1 d2
  have S2 := simp_sub h in2 m4 (by simp) sub2 d1 d2
  have t1 : Top v (v :: w :: C ++ [z]) := ⟨by simp, fun p hp => ht.2 p (in1 p hp)⟩
  have t2 : Top v (v :: z :: (D ++ [u])) := ⟨by simp, fun p hp => ht.2 p (in2 p hp)⟩
  have O1 : OrP (v :: w :: C ++ [z]) := ⟨z, v, w, t1, by rw [hE1]; simp, by rw [hE1]; exact List.mem_append_left _ List.mem_cons_self, by
    have := hA.2; rw [turn_rot z v w] at this; exact this⟩
  have O2 : OrP (v :: z :: (D ++ [u])) := ⟨u, v, z, t2, by rw [hE2, hc2]; simp, by rw [hE2]; exact List.mem_cons_self, hA.1⟩
  have lenl : l.length = C.length + D.length + 4 := by rw [← hl]; simp; omega
  have I1 := IH _ (by rw [lenl]; simp; omega) S1 O1
  have I2 := IH _ (by rw [lenl]; simp; omega) S2 O2
  have hAS : AllS (l.length - 1) := fun m hs ho hlen => (IH m (by rw [hlen]; omega) hs ho).2
  -- the second part's corners lie off the first
  have off1 : ∀ p ∈ D ++ [u], Offl (v :: w :: C ++ [z]) p := by
    intro p hp e he ho
    have pl : p ∈ l := in2 p (List.mem_cons_of_mem _ (List.mem_cons_of_mem _ hp))
    have e1 := (E_mem he).1
    have e2 := (E_mem he).2
    rcases sub1 e he with k | k | k
    · rcases h.on e k p pl ho with x | x
      · exact m3 _ e1 p hp x.symm
      · exact m3 _ e2 p hp x.symm
    · subst k
      rcases d1 p pl ho with x | x
      · exact m3 _ e1 p hp x.symm
      · exact m3 _ e2 p hp x.symm
    · subst k
      rcases d1 p pl ho.comm with x | x
      · exact m3 _ e2 p hp x.symm
      · exact m3 _ e1 p hp x.symm
  have off2 : ∀ p ∈ w :: C, Offl (v :: z :: (D ++ [u])) p := by
    intro p hp e he ho
    have pl : p ∈ l := in1 p (List.mem_cons_of_mem _ (List.mem_append_left _ hp))
    have e1 := (E_mem he).1
    have e2 := (E_mem he).2
    rcases sub2 e he with k | k | k
    · rcases h.on e k p pl ho with x | x
      · exact m5 _ e1 p hp x.symm
      · exact m5 _ e2 p hp x.symm
    · subst k
      rcases d1 p pl ho with x | x
      · exact m5 _ e1 p hp x.symm
      · exact m5 _ e2 p hp x.symm
    · subst k
      rcases d1 p pl ho.comm with x | x
      · exact m5 _ e2 p hp x.symm
      · exact m5 _ e1 p hp x.symm
  have xs1 : ∀ g ∈ E (v :: w :: C ++ [z]), ∀ f ∈ E l, ¬ Xs g.1 g.2 f.1 f.2 := by
    intro g hg f hf
    rcases sub1 g hg with k | k | k
    · exact h.xs g k f hf
    · subst k; exact d2 f hf
    · subst k; exact fun x => d2 f hf x.swap
  have xs2 : ∀ g ∈ E (v :: z :: (D ++ [u])), ∀ f ∈ E l, ¬ Xs g.1 g.2 f.1 f.2 := by
    intro g hg f hf
    rcases sub2 g hg with k | k | k
    · exact h.xs g k f hf
    · subst k; exact d2 f hf
    · subst k; exact fun x => d2 f hf x.swap
  have nomt1 : ∀ s ∈ D ++ [u], ∀ t ∈ D ++ [u], (s, t) ∈ E l → wi (v :: w :: C ++ [z]) s = wi (v :: w :: C ++ [z]) t := by
    intro s hs t ht' hst
    apply wi_const
    intro g hg
    have g1 := (E_mem hg).1
    have g2 := (E_mem hg).2
    exact dec_off h hst (S1.ne hg) (in1 _ g1) (in1 _ g2) (m3 _ g1 s hs) (m3 _ g1 t ht') (m3 _ g2 s hs) (m3 _ g2 t ht') (off1 s hs g hg) (off1 t ht' g hg) (xs1 g hg (s, t) hst)
  have nomt2 : ∀ s ∈ w :: C, ∀ t ∈ w :: C, (s, t) ∈ E l → wi (v :: z :: (D ++ [u])) s = wi (v :: z :: (D ++ [u])) t := by
    intro s hs t ht' hst
    apply wi_const
    intro g hg
    have g1 := (E_mem hg).1
    have g2 := (E_mem hg).2
    exact dec_off h hst (S2.ne hg) (in2 _ g1) (in2 _ g2) (m5 _ g1 s hs) (m5 _ g1 t ht') (m5 _ g2 s hs) (m5 _ g2 t ht') (off2 s hs g hg) (off2 t ht' g hg) (xs2 g hg (s, t) hst)
  have uv1 := ht.2 u (E_mem huv).1
  have wv1 := ht.2 w (E_mem hvw).2
  have zv1 := ht.2 z zl
  have nvu : u ≠ v := h.ne huv
  have nvw : v ≠ w := h.ne hvw
  -- at u the first part does not wind
  have wu : wi (v :: w :: C ++ [z]) u = 0 := by
    have hp := p1_path (s := u) (t := v) (C ++ [z]) w (by
      intro g hg
      have hg1 : g ∈ E (v :: w :: C ++ [z]) := by
        rw [hE1]; exact List.mem_append_left _ (List.mem_cons_of_mem _ hg)
      have k1 := path_mem1 z C w hg
      have k2 := (path_mem _ _ hg).2
      have n1 : g.1 ≠ v := by
        intro e; rw [e] at k1
        rw [List.cons_append, List.nodup_cons] at m1
        exact m1.1 (List.mem_append_left _ k1)
      have n2 : g.2 ≠ v := by
        intro e; rw [e] at k2
        rw [List.cons_append, List.nodup_cons] at m1
        exact m1.1 (List.mem_cons_of_mem _ k2)
      refine dec_off h huv (S1.ne hg1) (in1 _ (E_mem hg1).1) (in1 _ (E_mem hg1).2) (m3 _ (E_mem hg1).1 u uin2) n1 (m3 _ (E_mem hg1).2 u uin2) n2 (off1 u uin2 g hg1) ?_ (xs1 g hg1 (u, v) huv)
      intro o
      rcases S1.on g hg1 v (by simp) o with e | e
      · exact n1 e.symm
      · exact n2 e.symm)
    rw [en_snoc] at hp
    have hz0 : wE (path w (C ++ [z])) v = 0 := by
      apply wE_zero
      intro e he
      have k := path_mem _ _ he
      refine cr_high (t1.le ?_) (t1.le ?_)
      · exact List.mem_cons_of_mem _ k.1
      · exact List.mem_cons_of_mem _ (List.mem_cons_of_mem _ k.2)
    have hw : wi (v :: w :: C ++ [z]) u = cr v w u + wE (path w (C ++ [z])) u + cr z v u := by
      unfold wi
      rw [hE1]
      show wE ((v, w) :: path w (C ++ [z]) ++ [(z, v)]) u = _
      rw [List.cons_append, wE_cons, wE_app, wE_cons]
      show cr v w u + (_ + (cr z v u + 0)) = _
      omega
    rw [hw]
    have k1 : u.2 ≤ v.2 := by rcases uv1 with e | e | e; exact absurd e nvu; omega; omega
    have k2 : w.2 ≤ v.2 := by rcases wv1 with e | e | e; exact absurd e.symm nvw; omega; omega
    have k3 : z.2 ≤ v.2 := by rcases zv1 with e | e | e; exact absurd e zv; omega; omega
    have := num_u k1 k2 k3 hA.1 hD
    omega
  have ww : wi (v :: z :: (D ++ [u])) w = 0 := by
    have win : w ∈ w :: C := List.mem_cons_self
    have hp := p1_path (s := w) (t := v) (D ++ [u]) z (by
      intro g hg
      have hg1 : g ∈ E (v :: z :: (D ++ [u])) := by
        rw [hE2, hc2]; exact List.mem_cons_of_mem _ (List.mem_append_left _ hg)
      have k1 := path_mem1 u D z hg
      have k2 := (path_mem _ _ hg).2
      have n1 : g.1 ≠ v := by
        intro e; rw [e] at k1
        rw [List.nodup_cons] at m4
        rcases List.mem_cons.mp k1 with k1 | k1
        · exact zv k1.symm
        · exact m4.1 (List.mem_cons_of_mem _ (List.mem_append_left _ k1))
      have n2 : g.2 ≠ v := by
        intro e; rw [e] at k2
        rw [List.nodup_cons] at m4
        exact m4.1 (List.mem_cons_of_mem _ k2)
      have hwv : ¬ On g.1 g.2 v := by
        intro o
        rcases S2.on g hg1 v (by simp) o with e | e
        · exact n1 e.symm
        · exact n2 e.symm
      intro hm
      refine dec_off h hvw (S2.ne hg1) (in2 _ (E_mem hg1).1) (in2 _ (E_mem hg1).2) n1 (m5 _ (E_mem hg1).1 w win) n2 (m5 _ (E_mem hg1).2 w win) hwv (off2 w win g hg1) (xs2 g hg1 (v, w) hvw) hm.swap')
    rw [en_snoc] at hp
    have hz0 : wE (path z (D ++ [u])) v = 0 := by
      apply wE_zero
      intro e he
      have k := path_mem _ _ he
      refine cr_high (t2.le ?_) (t2.le ?_)
      · exact List.mem_cons_of_mem _ k.1
      · exact List.mem_cons_of_mem _ (List.mem_cons_of_mem _ k.2)
    have hw : wi (v :: z :: (D ++ [u])) w = cr v z w + wE (path z (D ++ [u])) w + cr u v w := by
      unfold wi
      rw [hE2, hc2, wE_cons, wE_app, wE_cons]
      show cr v z w + (_ + (cr u v w + 0)) = _
      omega
    rw [hw]
    have k1 : u.2 ≤ v.2 := by rcases uv1 with e | e | e; exact absurd e nvu; omega; omega
    have k2 : w.2 ≤ v.2 := by rcases wv1 with e | e | e; exact absurd e.symm nvw; omega; omega
    have k3 : z.2 ≤ v.2 := by rcases zv1 with e | e | e; exact absurd e zv; omega; omega
    have := num_w k1 k2 k3 hA.2 hD
    omega
  have zero1 : ∀ p ∈ D ++ [u], wi (v :: w :: C ++ [z]) p = 0 := by
    cases hDu : D ++ [u] with
    | nil => simp at hDu
    | cons x X =>
      have hen : en x X = u := by
        have : en z (D ++ [u]) = u := en_snoc u D z
        rw [hDu] at this; exact this
      have hc : ∀ e ∈ path x X, wi (v :: w :: C ++ [z]) e.1 = wi (v :: w :: C ++ [z]) e.2 := by
        intro e he
        have k := path_mem _ _ he
        refine nomt1 e.1 (by rw [hDu]; exact k.1) e.2 (by rw [hDu]; exact List.mem_cons_of_mem _ k.2) ?_
        rw [hEl, hc2, hDu]
        exact List.mem_append_right _ (List.mem_append_left _ (List.mem_cons_of_mem _ he))
      intro p hp
      rw [path_const _ X x hc p hp, hen, wu]
  have zero2 : ∀ p ∈ w :: C, wi (v :: z :: (D ++ [u])) p = 0 := by
    have hc : ∀ e ∈ path w C, wi (v :: z :: (D ++ [u])) e.1 = wi (v :: z :: (D ++ [u])) e.2 := by
      intro e he
      have k := path_mem _ _ he
      refine nomt2 e.1 k.1 e.2 (List.mem_cons_of_mem _ k.2) ?_
      rw [hEl]
      refine List.mem_append_left _ ?_
      show e ∈ (v, w) :: path w (C ++ [z])
      rw [path_app]
      exact List.mem_cons_of_mem _ (List.mem_append_left _ he)
    intro p hp
    have a := path_const _ C w hc p hp
    have b := path_const _ C w hc w List.mem_cons_self
    rw [a, ← b, ww]
  intro e0 he0
  rw [hEl] at he0
  rcases List.mem_append.mp he0 with k0 | k0
  · -- an ear in the second part
    obtain ⟨a, y, c, r1, r2, r3, r4, r5, r6⟩ := I2.1 (v, z) (by rw [hE2]; exact List.mem_cons_self)
    have yv : v ≠ y := fun e => r3 e.symm
    have r1' : (a, y) ∈ E l := by
      rw [hE2] at r1
      rcases List.mem_cons.mp r1 with e | e
      · exact absurd (Prod.mk.inj e).2 r4
      · rw [hEl]; exact List.mem_append_right _ e
    have r2' : (y, c) ∈ E l := by
      rw [hE2] at r2
      rcases List.mem_cons.mp r2 with e | e
      · exact absurd (Prod.mk.inj e).1 r3
      · rw [hEl]; exact List.mem_append_right _ e
    have ym : y ∈ D ++ [u] := by
      have := (E_mem r1).2
      rcases List.mem_cons.mp this with e | e
      · exact absurd e r3
      · rcases List.mem_cons.mp e with e | e
        · exact absurd e r4
        · exact e
    have hear : Ear l a y c := by
      refine ⟨r5.1, fun p hp hi => ?_⟩
      rcases inl' p hp with k | k
      · exact r5.2 p k hi
      · have := r6 p hi (off2 p k)
        rw [zero2 p k] at this
        omega
    refine ⟨a, y, c, r1', r2', ?_, ?_, hear, ear_inside h ht huv hvw hD r1' r2' hear yv (by rw [lenl]; omega) hAS⟩
    · have := path_mem1 z (w :: C) v k0
      exact fun e => m3 _ (List.mem_append_left _ this) y ym e.symm
    · have := (path_mem _ _ k0).2
      exact fun e => m3 _ (List.mem_cons_of_mem _ this) y ym e.symm
  · obtain ⟨a, y, c, r1, r2, r3, r4, r5, r6⟩ := I1.1 (z, v) (by rw [hE1]; simp)
    have yv : v ≠ y := fun e => r4 e.symm
    have r1' : (a, y) ∈ E l := by
      rw [hE1] at r1
      rcases List.mem_append.mp r1 with e | e
      · rw [hEl]; exact List.mem_append_left _ e
      · have e : (a, y) = (z, v) := by simpa using e
        exact absurd (Prod.mk.inj e).2 r4
    have r2' : (y, c) ∈ E l := by
      rw [hE1] at r2
      rcases List.mem_append.mp r2 with e | e
      · rw [hEl]; exact List.mem_append_left _ e
      · have e : (y, c) = (z, v) := by simpa using e
        exact absurd (Prod.mk.inj e).1 r3
    have ym : y ∈ w :: C := by
      have := (E_mem r1).2
      rw [List.cons_append] at this
      rcases List.mem_cons.mp this with e | e
      · exact absurd e r4
      · rcases List.mem_append.mp e with e | e
        · exact e
        · exact absurd (by simpa using e) r3
    have hear : Ear l a y c := by
      refine ⟨r5.1, fun p hp hi => ?_⟩
      rcases inl p hp with k | k
      · exact r5.2 p k hi
      · have := r6 p hi (off1 p k)
        rw [zero1 p k] at this
        omega
    refine ⟨a, y, c, r1', r2', ?_, ?_, hear, ear_inside h ht huv hvw hD r1' r2' hear yv (by rw [lenl]; omega) hAS⟩
    · have := path_mem1 v (D ++ [u]) z k0
      exact fun e => m5 _ (List.mem_cons_of_mem _ this) y ym e.symm
    · have := (path_mem _ _ k0).2
      have : e0.2 ∈ v :: z :: (D ++ [u]) := by
        rcases List.mem_append.mp this with k | k
        · exact List.mem_cons_of_mem _ (List.mem_cons_of_mem _ k)
        · have : e0.2 = v := by simpa using k
          rw [this]; exact List.mem_cons_self
      exact fun e => m5 _ this y ym e.symm
theorem lex_no {α β γ x1 x2 x3 y1 y2 y3 : Int} (hα : 0 ≤ α) (hβ : 0 ≤ β) (hγ : 0 ≤ γ) (hs : 0 < α + β + γ)
    (h1 : y1 < 0 ∨ (y1 = 0 ∧ x1 < 0)) (h2 : y2 < 0 ∨ (y2 = 0 ∧ x2 < 0)) (h3 : y3 < 0 ∨ (y3 = 0 ∧ x3 < 0))
    (hx : α * x1 + β * x2 + γ * x3 = 0) (hy : α * y1 + β * y2 + γ * y3 = 0) : False := by
  have np : ∀ {k x y : Int}, 0 ≤ k → (y < 0 ∨ (y = 0 ∧ x < 0)) → k * y ≤ 0 ∧ (0 < k → k * y < 0 ∨ (k * y = 0 ∧ k * x < 0)) ∧ (k = 0 → k * y = 0 ∧ k * x = 0) := by
    intro k x y hk h
    refine ⟨pn' hk (by omega), ?_, ?_⟩
    · intro h0
      rcases h with h | ⟨h, h'⟩
      · exact Or.inl (pn h0 h)
      · exact Or.inr ⟨by rw [h, Int.mul_zero], pn h0 h'⟩
    · intro h0; subst h0; exact ⟨Int.zero_mul _, Int.zero_mul _⟩
  obtain ⟨a1, a2, a3⟩ := np hα h1
  obtain ⟨b1, b2, b3⟩ := np hβ h2
  obtain ⟨c1, c2, c3⟩ := np hγ h3
  have ha : α = 0 ∨ 0 < α := by omega
  have hb : β = 0 ∨ 0 < β := by omega
  have hc : γ = 0 ∨ 0 < γ := by omega
  rcases ha with ha | ha <;> rcases hb with hb | hb <;> rcases hc with hc | hc <;> (try have A := a3 ha) <;> (try have A := a2 ha) <;> (try have B := b3 hb) <;> (try have B := b2 hb) <;> (try have C := c3 hc) <;> (try have C := c2 hc) <;> omega
/-- the top corner is in no triangle of others -/
theorem top_not_in {l : List Pt} {v a y c : Pt} (ht : Top v l) (ha : a ∈ l) (hy : y ∈ l) (hc : c ∈ l) (na : a ≠ v) (ny : y ≠ v) (nc : c ≠ v)
    (hD : 0 < turn a y c) : ¬ InT a y c v := by
  intro hi
  have s := bary_sum a y c v
  have b1 := bary_1 a y c v
  have b2 := bary_2 a y c v
  have lo : ∀ p ∈ l, p ≠ v → (p.2 - v.2 < 0 ∨ (p.2 - v.2 = 0 ∧ p.1 - v.1 < 0)) := by
    intro p hp hn
    rcases ht.2 p hp with e | e | e
    · exact absurd e hn
    · omega
    · omega
  rw [← s] at b1 b2 hD
  refine lex_no hi.2.1 hi.2.2 hi.1 (by omega) (lo a ha na) (lo y hy ny) (lo c hc nc) ?_ ?_
  · rw [Int.mul_sub, Int.mul_sub, Int.mul_sub]; rw [Int.add_mul, Int.add_mul] at b1; omega
  · rw [Int.mul_sub, Int.mul_sub, Int.mul_sub]; rw [Int.add_mul, Int.add_mul] at b2; omega
theorem main : ∀ (n : Nat) (l : List Pt), l.length = n → Simp l → OrP l → Ear1 l ∧ S01 l := by
  intro n
  induction n using Nat.strongRecOn with
  | ind n ih =>
    intro l hn h ho
    have IH : ∀ m : List Pt, m.length < l.length → Simp m → OrP m → Ear1 m ∧ S01 m := fun m hm hs hO => ih m.length (by omega) m rfl hs hO
    obtain ⟨u, v, w, ht, huv, hvw, hD⟩ := ho
    obtain ⟨M, hM⟩ := Rot_two h.nd h.len huv hvw
    by_cases hMn : M = []
    · subst hMn
      have k := tri_main hD
      refine ⟨k.1.rot hM.symm, fun q hq => ?_⟩
      rw [hM.wi]; exact k.2 q (hq.rot hM)
    have h4 : 4 ≤ l.length := by
      rw [hM.len]
      cases M with
      | nil => exact absurd rfl hMn
      | cons => simp
    have hAS : AllS (l.length - 1) := fun m hs hO hlen => (IH m (by omega) hs hO).2
    have hEar : Ear1 l := by
      by_cases hc : ∃ p ∈ l, p ≠ u ∧ p ≠ v ∧ p ≠ w ∧ InT u v w p
      · obtain ⟨z, zl, ⟨zu, zv, zw, hz⟩, hmax⟩ := max_ex (P := fun p => p ≠ u ∧ p ≠ v ∧ p ≠ w ∧ InT u v w p) (fun p => turn w u p) l hc
        obtain ⟨K, hK⟩ := Rot_at ht.1
        have zK : z ∈ K := by
          rcases List.mem_cons.mp ((hK.mem z).mp zl) with e | e
          · exact absurd e zv
          · exact e
        obtain ⟨A, B, e⟩ := List.append_of_mem zK
        subst e
        have hnd := hK.nodup.mp h.nd
        -- the first part begins with w
        have hA : ∃ C, A = w :: C := by
          cases A with
          | nil =>
            have e1 : (v, z) ∈ E (v :: ([] ++ z :: B)) := List.mem_cons_self
            exact absurd (succ_uniq hnd e1 ((hK.memE _).mp hvw)) zw
          | cons x C =>
            have e1 : (v, x) ∈ E (v :: (x :: C ++ z :: B)) := List.mem_cons_self
            have := succ_uniq hnd e1 ((hK.memE _).mp hvw)
            exact ⟨C, by rw [this]⟩
        obtain ⟨C, rfl⟩ := hA
        have hB : ∃ D, B = D ++ [u] := by
          rcases List.eq_nil_or_concat B with e | ⟨D, x, e⟩
          · subst e
            have e1 : (z, v) ∈ E (v :: (w :: C ++ [z])) := by
              show (z, v) ∈ path v ((w :: C ++ [z]) ++ [v])
              rw [path_app, en_snoc]; exact List.mem_append_right _ List.mem_cons_self
            exact absurd (pred_uniq hnd e1 ((hK.memE _).mp huv)) zu
          · subst e
            have e1 : (x, v) ∈ E (v :: (w :: C ++ z :: (D.concat x))) := by
              show (x, v) ∈ path v ((w :: C ++ z :: (D.concat x)) ++ [v])
              rw [List.concat_eq_append]
              have : w :: C ++ z :: (D ++ [x]) = (w :: C ++ z :: D) ++ [x] := by simp
              rw [this, path_app, en_snoc]; exact List.mem_append_right _ List.mem_cons_self
            have := pred_uniq hnd e1 ((hK.memE _).mp huv)
            exact ⟨D, by rw [List.concat_eq_append, this]⟩
        obtain ⟨D, rfl⟩ := hB
        refine Ear1.rot (case2 (h.rot hK) (ht.rot hK) hD hz (fun p hp hP => hmax p ((hK.mem p).mpr hp) hP) ?_) hK.symm
        intro m hm
        rw [← hK.len] at hm
        exact IH m hm
      · -- the top is an ear
        have hev : Ear l u v w := by
          refine ⟨hD, fun p hp hi => ?_⟩
          by_cases e1 : p = u
          · exact Or.inl e1
          · by_cases e2 : p = v
            · exact Or.inr (Or.inl e2)
            · by_cases e3 : p = w
              · exact Or.inr (Or.inr e3)
              · exact absurd ⟨p, hp, e1, e2, e3, hi⟩ hc
        have hS := h.rot hM
        have hE := hev.rot hM
        have hlen : l.length - 1 = (u :: w :: M).length := by rw [hM.len]; simp
        have hO' : OrP (u :: w :: M) := OrP_top hS hE hMn (ht.rot hM) (by rw [← hlen]; exact hAS)
        have hS' := hS.cut hE hMn
        have h0 := ear_zero hS hE hMn hO' (by rw [← hlen]; exact hAS)
        intro e0 he0
        by_cases hv : v ≠ e0.1 ∧ v ≠ e0.2
        · refine ⟨u, v, w, huv, hvw, hv.1, hv.2, hev, fun q hq hoff => ?_⟩
          rw [hM.wi]
          exact ear_in' hS hE h0 hq (hoff.rot hM)
        · obtain ⟨a, y, c, r1, r2, r3, r4, r5, r6⟩ := (IH (u :: w :: M) (by omega) hS' hO').1 (u, w) (by rw [E_cut]; exact List.mem_cons_self)
          have r1' : (a, y) ∈ E l := by
            rw [E_cut] at r1
            rw [hM.memE, E_ear]
            rcases List.mem_cons.mp r1 with e | e
            · exact absurd (Prod.mk.inj e).2 r4
            · exact List.mem_cons_of_mem _ (List.mem_cons_of_mem _ e)
          have r2' : (y, c) ∈ E l := by
            rw [E_cut] at r2
            rw [hM.memE, E_ear]
            rcases List.mem_cons.mp r2 with e | e
            · exact absurd (Prod.mk.inj e).1 r3
            · exact List.mem_cons_of_mem _ (List.mem_cons_of_mem _ e)
          have nv : ∀ p ∈ u :: w :: M, p ≠ v := by
            have := hS.nd
            simp only [List.nodup_cons, List.mem_cons, not_or] at this
            obtain ⟨⟨n1, n2, n3⟩, ⟨n4, n5⟩, n6, n7⟩ := this
            intro p hp e
            subst e
            simp only [List.mem_cons] at hp
            rcases hp with h | h | h
            · exact n1 h.symm
            · exact n4 h
            · exact n5 h
          have ya := nv a (E_mem r1).1
          have yy := nv y (E_mem r1).2
          have yc := nv c (E_mem r2).2
          have hear : Ear l a y c := by
            refine ⟨r5.1, fun p hp hi => ?_⟩
            by_cases hpv : p = v
            · subst hpv
              exact absurd hi (top_not_in ht (E_mem r1').1 (E_mem r1').2 (E_mem r2').2 ya yy yc r5.1)
            · refine r5.2 p ?_ hi
              have := (hM.mem p).mp hp
              rcases List.mem_cons.mp this with e | e
              · rw [e]; exact List.mem_cons_self
              · rcases List.mem_cons.mp e with e | e
                · exact absurd e hpv
                · exact List.mem_cons_of_mem _ e
          refine ⟨a, y, c, r1', r2', ?_, ?_, hear, ear_inside h ht huv hvw hD r1' r2' hear (fun e => yy e.symm) h4 hAS⟩
          · by_cases e1 : v = e0.1
            · rw [← e1]; exact yy
            · have e2 : v = e0.2 := Classical.byContradiction fun e2 => hv ⟨e1, e2⟩
              have : (e0.1, v) ∈ E l := by rw [e2]; exact he0
              rw [pred_uniq h.nd this huv]; exact r3
          · by_cases e2 : v = e0.2
            · rw [← e2]; exact yy
            · have e1 : v = e0.1 := Classical.byContradiction fun e1 => hv ⟨e1, e2⟩
              have : (v, e0.2) ∈ E l := by rw [e1]; exact he0
              rw [succ_uniq h.nd this hvw]; exact r4
    refine ⟨hEar, fun q hq => ?_⟩
    obtain ⟨a, y, c, r1, r2, r3, r4, r5, r6⟩ := hEar (u, v) huv
    by_cases hi : InT a y c q
    · exact Or.inr (r6 q hi hq)
    · obtain ⟨K, hK⟩ := Rot_two h.nd h.len r1 r2
      have hKne : K ≠ [] := by intro e; rw [hK.len, e] at h4; simp at h4
      have hS := h.rot hK
      have hE := r5.rot hK
      have hO' : OrP (a :: c :: K) := OrP_cut hS hE hKne ⟨u, v, w, ht.rot hK, (hK.memE _).mp huv, (hK.memE _).mp hvw, hD, fun e => r4 e.symm⟩
      have hS' := hS.cut hE hKne
      rw [hK.wi, wi_ear, tri_out r5.1 hi, Int.add_zero]
      refine hAS _ hS' hO' (by rw [hK.len]; simp) q ?_
      intro e he hon
      rw [E_cut] at he
      rcases List.mem_cons.mp he with e1 | e1
      · subst e1
        refine hi ?_
        have : 0 < turn c a y := by rw [turn_rot, turn_rot]; exact r5.1
        exact (On.inT this hon.comm).rot
      · exact (hq.rot hK) e (by rw [E_ear]; exact List.mem_cons_of_mem _ (List.mem_cons_of_mem _ e1)) hon
end GE

set_option linter.all false
set_option maxHeartbeats 1000000
/-! GK: the area; which way round. -/
namespace GE
open PG (Pt turn onB crossT at_ nx area meetL simpleL good turns)
def ar (l : List Pt) : Int := ((E l).map fun e => crossT e.1 e.2).sum
theorem path_len : ∀ (L : List Pt) (a : Pt), (path a L).length = L.length
  | [], _ => rfl
  | c :: L, a => by
    show (path c L).length + 1 = _
    rw [path_len L c]; rfl
theorem path_get : ∀ (L : List Pt) (a : Pt) (i : Nat) (h : i < L.length), (path a L)[i]'(by rw [path_len]; exact h) = ((a :: L)[i]'(by rw [List.length_cons]; omega), L[i])
  | [], _, _, h => by simp at h
  | c :: L, a, 0, _ => rfl
  | c :: L, a, i + 1, h => path_get L c i (by simpa using h)
theorem E_len : ∀ l : List Pt, (E l).length = l.length
  | [] => rfl
  | v :: L => by
    show (path v (L ++ [v])).length = _
    rw [path_len]; simp
theorem E_get (l : List Pt) (i : Nat) (h : i < l.length) : (E l)[i]'(by rw [E_len]; exact h) = (at_ l i, nx l (i + 1)) := by
  match l, h with
  | v :: L, h =>
    have hi : i < (L ++ [v]).length := by rw [List.length_append]; simpa using h
    have e : (E (v :: L))[i]'(by rw [E_len]; exact h) = (path v (L ++ [v]))[i]'(by rw [path_len]; exact hi) := rfl
    rw [e, path_get (L ++ [v]) v i hi]
    unfold nx at_
    have h1 : (v :: (L ++ [v]))[i]'(by simp at h ⊢; omega) = (v :: L).getD i (0, 0) := by
      rw [List.getD_eq_getElem?_getD, List.getElem?_eq_getElem h]
      show (v :: L ++ [v])[i]'_ = _
      rw [List.getElem_append_left h]; rfl
    have h2 : (L ++ [v])[i] = (v :: L).getD ((i + 1) % (v :: L).length) (0, 0) := by
      by_cases hc : i + 1 < (v :: L).length
      · rw [Nat.mod_eq_of_lt hc, List.getD_eq_getElem?_getD, List.getElem?_eq_getElem hc]
        have : i < L.length := by simpa using hc
        rw [List.getElem_append_left this]; rfl
      · have e1 : i + 1 = (v :: L).length := by omega
        rw [e1, Nat.mod_self]
        have e2 : i = L.length := by simpa using e1
        subst e2
        rw [List.getElem_append_right (Nat.le_refl _)]
        simp
    rw [h1, h2]
theorem E_range (l : List Pt) : E l = (List.range l.length).map fun i => (at_ l i, nx l (i + 1)) := by
  apply List.ext_getElem
  · rw [E_len]; simp
  · intro i h1 h2
    rw [E_len] at h1
    rw [E_get l i h1]
    simp
theorem area_ar (l : List Pt) : area l = ar l := by
  unfold area ar
  rw [E_range, List.map_map]; rfl
theorem Rot.ar {l m : List Pt} (h : Rot l m) : ar l = ar m := perm_sum (h.2.map _)
theorem ar_ear (a y c : Pt) (M : List Pt) : ar (a :: y :: c :: M) = ar (a :: c :: M) + turn a y c := by
  unfold ar
  rw [E_ear, E_cut, List.map_cons, List.map_cons, List.map_cons, List.sum_cons, List.sum_cons, List.sum_cons]
  unfold crossT turn
  simp only
  grind
theorem ar_rev (l : List Pt) : ar (rev l) = - ar l := by
  unfold ar
  rw [perm_sum ((E_rev_perm l).map _)]
  generalize E l = S
  induction S with
  | nil => rfl
  | cons e S ih =>
    rw [List.map_cons, List.map_cons, List.map_cons, List.sum_cons, List.sum_cons, ih]
    have : crossT (sw e).1 (sw e).2 = - crossT e.1 e.2 := by unfold crossT sw; grind
    omega
/-- Theorem A -/
theorem ar_pos : ∀ (n : Nat) (l : List Pt), l.length = n → Simp l → OrP l → 0 < ar l := by
  intro n
  induction n using Nat.strongRecOn with
  | ind n ih =>
    intro l hn h ho
    obtain ⟨u, v, w, ht, huv, hvw, hD⟩ := ho
    obtain ⟨a, y, c, r1, r2, r3, r4, r5, r6⟩ := (main n l hn h ⟨u, v, w, ht, huv, hvw, hD⟩).1 (u, v) huv
    obtain ⟨K, hK⟩ := Rot_two h.nd h.len r1 r2
    rw [hK.ar, ar_ear]
    have hd := r5.1
    by_cases hKne : K = []
    · subst hKne
      have : ar [a, c] = 0 := by unfold ar E path crossT; simp [path]; grind
      omega
    · have hS := h.rot hK
      have hE := r5.rot hK
      have hO' : OrP (a :: c :: K) := OrP_cut hS hE hKne ⟨u, v, w, ht.rot hK, (hK.memE _).mp huv, (hK.memE _).mp hvw, hD, fun e => r4 e.symm⟩
      have := ih (a :: c :: K).length (by rw [← hn, hK.len]; simp) _ rfl (hS.cut hE hKne) hO'
      omega
theorem ar_neg {l : List Pt} (h : Simp l) (ho : OrN l) : ar l < 0 := by
  have := ar_pos _ _ rfl h.rev ho.rev
  rw [ar_rev] at this
  omega
theorem ar_ne {l : List Pt} (h : Simp l) : ar l ≠ 0 := by
  rcases OrP_or_OrN h with ho | ho
  · have := ar_pos _ _ rfl h ho; omega
  · have := ar_neg h ho; omega
theorem OrP_iff {l : List Pt} (h : Simp l) : OrP l ↔ 0 < ar l := by
  constructor
  · exact ar_pos _ _ rfl h
  · intro hp
    rcases OrP_or_OrN h with ho | ho
    · exact ho
    · have := ar_neg h ho; omega
/-- Simp, and told with the inside to the left -/
structure Ccw (l : List Pt) : Prop where
  simp : Simp l
  pos : 0 < ar l
theorem Ccw.orp {l : List Pt} (h : Ccw l) : OrP l := (OrP_iff h.simp).mpr h.pos
theorem Ccw.rot {l m : List Pt} (h : Ccw l) (hr : Rot l m) : Ccw m := ⟨h.simp.rot hr, by rw [← hr.ar]; exact h.pos⟩
/-- Lemma C: any ear may be cut off -/
theorem Ccw.cut {a y c : Pt} {M : List Pt} (h : Ccw (a :: y :: c :: M)) (he : Ear (a :: y :: c :: M) a y c) (hM : M ≠ []) : Ccw (a :: c :: M) := by
  have hS' := h.simp.cut he hM
  refine ⟨hS', (OrP_iff hS').mp ?_⟩
  obtain ⟨u, v, w, ht, huv, hvw, hD⟩ := h.orp
  have hAS : ∀ n, AllS n := fun n m hs ho hn => (main n m hn hs ho).2
  by_cases hvy : v = y
  · subst hvy
    exact OrP_top h.simp he hM ht (hAS _)
  · exact OrP_cut h.simp he hM ⟨u, v, w, ht, huv, hvw, hD, hvy⟩
theorem Ccw.zero {a y c : Pt} {M : List Pt} (h : Ccw (a :: y :: c :: M)) (he : Ear (a :: y :: c :: M) a y c) (hM : M ≠ []) : wi (a :: c :: M) y = 0 :=
  ear_zero h.simp he hM (h.cut he hM).orp (fun m hs ho hn => (main _ m hn hs ho).2)
/-- there is an ear -/
theorem Ccw.ear {l : List Pt} (h : Ccw l) : ∃ a y c, (a, y) ∈ E l ∧ (y, c) ∈ E l ∧ Ear l a y c := by
  obtain ⟨u, v, w, ht, huv, hvw, hD⟩ := h.orp
  obtain ⟨a, y, c, r1, r2, _, _, r5, _⟩ := (main _ l rfl h.simp h.orp).1 (u, v) huv
  exact ⟨a, y, c, r1, r2, r5⟩
theorem Ccw.s01 {l : List Pt} (h : Ccw l) : S01 l := (main _ l rfl h.simp h.orp).2
/-! good plots -/
def NM (a b c d : Pt) : Prop := ¬ On a b c ∧ ¬ On a b d ∧ ¬ On c d a ∧ ¬ On c d b ∧ ¬ Xs a b c d
theorem NM_of {a b c d : Pt} (h : meetL a b c d = false) : NM a b c d := by
  unfold meetL at h
  simp only [Bool.or_eq_false_iff, Bool.and_eq_false_iff] at h
  obtain ⟨⟨⟨⟨h1, h2⟩, h3⟩, h4⟩, h5⟩ := h
  refine ⟨?_, ?_, ?_, ?_, ?_⟩
  · intro o; rw [(On_iff _ _ _).mpr o] at h1; cases h1
  · intro o; rw [(On_iff _ _ _).mpr o] at h2; cases h2
  · intro o; rw [(On_iff _ _ _).mpr o] at h3; cases h3
  · intro o; rw [(On_iff _ _ _).mpr o] at h4; cases h4
  · rintro ⟨x1, x2⟩
    rcases h5 with h5 | h5
    · simp at h5; omega
    · simp at h5; omega
theorem NM.symm {a b c d : Pt} (h : NM a b c d) : NM c d a b := ⟨h.2.2.1, h.2.2.2.1, h.1, h.2.1, fun x => h.2.2.2.2 x.symm⟩
theorem mem_at {l : List Pt} {p : Pt} (h : p ∈ l) : ∃ i, i < l.length ∧ at_ l i = p := by
  obtain ⟨i, hi, e⟩ := List.getElem_of_mem h
  exact ⟨i, hi, by unfold at_; rw [List.getD_eq_getElem?_getD, List.getElem?_eq_getElem hi]; exact e⟩
theorem nx_lt {l : List Pt} {i : Nat} (h : i < l.length) : nx l i = at_ l i := by unfold nx; rw [Nat.mod_eq_of_lt h]
theorem nx_mod (l : List Pt) (i : Nat) : nx l (i % l.length) = nx l i := by unfold nx; rw [Nat.mod_mod]
theorem Xs_share {a b c d : Pt} (h : a = c ∨ a = d ∨ b = c ∨ b = d) : ¬ Xs a b c d := by
  rintro ⟨x1, x2⟩
  rcases h with e | e | e | e
  · subst e; rw [turn_aba, Int.zero_mul] at x1; omega
  · subst e; rw [turn_aba, Int.mul_zero] at x1; omega
  · subst e; rw [turn_abb, Int.zero_mul] at x1; omega
  · subst e; rw [turn_abb, Int.mul_zero] at x1; omega
theorem good_simp {l : List Pt} (hg : good l = true) (h3 : 3 ≤ l.length) : Simp l := by
  unfold good at hg
  simp only [Bool.and_eq_true, decide_eq_true_eq, Bool.not_eq_true', decide_eq_false_iff_not] at hg
  obtain ⟨⟨hn, ht⟩, hs⟩ := hg
  -- sides i < j without a common corner
  have far : ∀ i j, i < l.length → j < l.length → i + 2 ≤ j → ¬ (i = 0 ∧ j + 1 = l.length) → NM (at_ l i) (nx l (i + 1)) (at_ l j) (nx l (j + 1)) := by
    intro i j hi hj hij hne
    unfold simpleL at hs
    have h1 := List.all_eq_true.mp hs i (List.mem_range.mpr hi)
    have h2 := List.all_eq_true.mp h1 (j - (i + 2)) (List.mem_range.mpr (by omega))
    have e : i + 2 + (j - (i + 2)) = j := by omega
    rw [e] at h2
    simp only [Bool.or_eq_true, decide_eq_true_eq, Bool.not_eq_true'] at h2
    rcases h2 with h2 | h2
    · exfalso
      by_cases hc : j + 1 < l.length
      · rw [Nat.mod_eq_of_lt hc] at h2; omega
      · have : j + 1 = l.length := by omega
        rw [this, Nat.mod_self] at h2
        exact hne ⟨h2.symm, this⟩
    · have := NM_of h2
      rw [← nx_lt hj]
      rw [nx_lt hj]
      exact this
  have far' : ∀ i j, i < l.length → j < l.length → i ≠ j → i + 1 ≠ j → j + 1 ≠ i → ¬ (i = 0 ∧ j + 1 = l.length) → ¬ (j = 0 ∧ i + 1 = l.length) → NM (at_ l i) (nx l (i + 1)) (at_ l j) (nx l (j + 1)) := by
    intro i j hi hj h1 h2 h3 h4 h5
    rcases Nat.lt_or_gt_of_ne h1 with h | h
    · exact far i j hi hj (by omega) h4
    · exact (far j i hj hi (by omega) h5).symm
  have hE : ∀ e ∈ E l, ∃ i, i < l.length ∧ e = (at_ l i, nx l (i + 1)) := by
    intro e he
    rw [E_range] at he
    obtain ⟨i, hi, h⟩ := List.mem_map.mp he
    exact ⟨i, List.mem_range.mp hi, h.symm⟩
  have nxl : ∀ i, i + 1 = l.length → nx l (i + 1) = at_ l 0 := by
    intro i h; unfold nx; rw [h, Nat.mod_self]
  refine ⟨hn, h3, ?_, ?_⟩
  · intro e he p hp ho
    obtain ⟨i, hi, rfl⟩ := hE e he
    obtain ⟨j, hj, rfl⟩ := mem_at hp
    by_cases c1 : j = i
    · left; rw [c1]
    by_cases c2 : j = i + 1
    · right; rw [c2]; exact (nx_lt (by omega)).symm
    by_cases c3 : i + 1 = l.length ∧ j = 0
    · right; rw [c3.2]; exact (nxl i c3.1).symm
    exfalso
    -- the side from j on
    by_cases c4 : j + 1 = i ∨ (i = 0 ∧ j + 1 = l.length)
    · -- the side before j
      by_cases c5 : l.length = 3
      · -- three corners: the turn is nought
        apply ht
        unfold turns
        rw [List.mem_map]
        have k : ∀ i, i < 3 → nx l (i + 2) = at_ l ((i + 2) % 3) := by
          intro i _; unfold nx; rw [c5]
        refine ⟨i, List.mem_range.mpr hi, ?_⟩
        rw [k i (by omega)]
        have : (i + 2) % 3 = j := by omega
        rw [this]; exact ho.1
      · have hj1 : ∃ k, k < l.length ∧ ((k + 1 = j) ∨ (j = 0 ∧ k + 1 = l.length)) := by
          by_cases c6 : j = 0
          · exact ⟨l.length - 1, by omega, Or.inr ⟨c6, by omega⟩⟩
          · exact ⟨j - 1, by omega, Or.inl (by omega)⟩
        obtain ⟨k, hk, hkj⟩ := hj1
        have nk : nx l (k + 1) = at_ l j := by
          rcases hkj with e | ⟨e, e'⟩
          · rw [e]; exact nx_lt hj
          · rw [nxl k e', e]
        have f := far' i k hi hk (by omega) (by omega) (by omega) (by omega) (by omega)
        rw [nk] at f
        exact f.2.1 ho
    · have f := far' i j hi hj (fun e => c1 e.symm) (fun e => c2 e.symm) (fun e => c4 (Or.inl e)) (fun e => c4 (Or.inr e)) (fun e => c3 ⟨e.2, e.1⟩)
      exact f.1 ho
  · intro e he f hf
    obtain ⟨i, hi, rfl⟩ := hE e he
    obtain ⟨j, hj, rfl⟩ := hE f hf
    by_cases c1 : i = j
    · subst c1; exact Xs_share (Or.inl rfl)
    by_cases c2 : i + 1 = j
    · refine Xs_share (Or.inr (Or.inr (Or.inl ?_)))
      simp only; rw [c2]; exact nx_lt hj
    by_cases c3 : j + 1 = i
    · refine Xs_share (Or.inr (Or.inl ?_))
      simp only; rw [c3]; exact (nx_lt hi).symm
    by_cases c4 : i = 0 ∧ j + 1 = l.length
    · refine Xs_share (Or.inr (Or.inl ?_))
      simp only; rw [c4.1]; exact (nxl j c4.2).symm
    by_cases c5 : j = 0 ∧ i + 1 = l.length
    · refine Xs_share (Or.inr (Or.inr (Or.inl ?_)))
      simp only; rw [c5.1]; exact nxl i c5.2
    exact (far' i j hi hj c1 c2 c3 c4 c5).2.2.2.2
end GE

set_option linter.all false
set_option maxHeartbeats 1000000
/-! GL: saws; straight maps; in order. -/
namespace GE
open PG (Pt turn onB crossT at_ nx area meetL simpleL good turns Asc SawI)
/-! a chain from left to right -/
theorem asc_path : ∀ (M : List Pt) (a : Pt), Asc (a :: M) → ∀ e ∈ path a M, e.1.1 < e.2.1 ∧ ∀ p ∈ a :: M, p.1 ≤ e.1.1 ∨ e.2.1 ≤ p.1
  | [], a, _, e, he => by cases he
  | c :: M, a, h, e, he => by
    have h' : Asc (c :: M) := (List.pairwise_cons.mp h).2
    have ha : ∀ p ∈ c :: M, a.1 < p.1 := (List.pairwise_cons.mp h).1
    have hc : ∀ p ∈ M, c.1 < p.1 := (List.pairwise_cons.mp h').1
    rcases List.mem_cons.mp he with k | k
    · subst k
      refine ⟨ha c List.mem_cons_self, fun p hp => ?_⟩
      rcases List.mem_cons.mp hp with k | k
      · left; rw [k]; exact Int.le_refl _
      · right
        rcases List.mem_cons.mp k with k | k
        · rw [k]; exact Int.le_refl _
        · exact Int.le_of_lt (hc p k)
    · have ih := asc_path M c h' e k
      refine ⟨ih.1, fun p hp => ?_⟩
      rcases List.mem_cons.mp hp with j | j
      · left; rw [j]
        exact Int.le_of_lt (ha _ (path_mem _ _ k).1)
      · exact ih.2 p j
theorem asc_inj {l : List Pt} (h : Asc l) {p q : Pt} (hp : p ∈ l) (hq : q ∈ l) (e : p.1 = q.1) : p = q := by
  induction l with
  | nil => cases hp
  | cons a l ih =>
    have h1 := (List.pairwise_cons.mp h).1
    have h2 := (List.pairwise_cons.mp h).2
    rcases List.mem_cons.mp hp with k | k <;> rcases List.mem_cons.mp hq with j | j
    · rw [k, j]
    · have := h1 q j; rw [k] at e; omega
    · have := h1 p k; rw [j] at e; omega
    · exact ih h2 k j
theorem asc_on {M : List Pt} {a : Pt} (h : Asc (a :: M)) {e : Ed} (he : e ∈ path a M) {p : Pt} (hp : p ∈ a :: M) (ho : On e.1 e.2 p) : p = e.1 ∨ p = e.2 := by
  obtain ⟨h1, h2⟩ := asc_path M a h e he
  have hb := ho.box.1
  have hm := path_mem _ _ he
  rcases h2 p hp with k | k
  · left; exact asc_inj h hp hm.1 (by omega)
  · right; exact asc_inj h hp (List.mem_cons_of_mem _ hm.2) (by omega)
theorem lin_lt {α β x y z : Int} (hα : 0 < α) (hβ : 0 ≤ β) (hx : x < z) (hy : y ≤ z) : α * x + β * y < (α + β) * z := by
  have h1 := Int.mul_pos hα (show 0 < z - x by omega)
  have h2 := Int.mul_nonneg hβ (show 0 ≤ z - y by omega)
  rw [Int.mul_sub] at h1 h2
  rw [Int.add_mul]; omega
theorem lin_gt {α β x y z : Int} (hα : 0 ≤ α) (hβ : 0 < β) (hx : z ≤ x) (hy : z < y) : (α + β) * z < α * x + β * y := by
  have h1 := Int.mul_pos hβ (show 0 < y - z by omega)
  have h2 := Int.mul_nonneg hα (show 0 ≤ x - z by omega)
  rw [Int.mul_sub] at h1 h2
  rw [Int.add_mul]; omega
theorem asc_xs {M : List Pt} {a : Pt} (h : Asc (a :: M)) {e f : Ed} (he : e ∈ path a M) (hf : f ∈ path a M) : ¬ Xs e.1 e.2 f.1 f.2 := by
  intro hx
  have hsep : ∀ e f : Ed, e ∈ path a M → f ∈ path a M → Xs e.1 e.2 f.1 f.2 → e.2.1 ≤ f.1.1 → False := by
    intro e f he hf hx hle
    obtain ⟨α, β, l, m, a1, a2, a3, a4, W⟩ := hx.mt
    obtain ⟨_, _, _, _, _, p6, p7, _⟩ := W
    have e1 := (asc_path M a h e he).1
    have f1 := (asc_path M a h f hf).1
    have b1 := lin_lt a1 (Int.le_of_lt a2) e1 (Int.le_refl e.2.1)
    have b2 := lin_gt (Int.le_of_lt a3) a4 (Int.le_refl f.1.1) f1
    have b3 := Int.mul_le_mul_of_nonneg_left hle (show 0 ≤ α + β by omega)
    rw [← p6] at b2
    omega
  have me := path_mem _ _ he
  have mf := path_mem _ _ hf
  have e1 := asc_path M a h e he
  have f1 := asc_path M a h f hf
  rcases e1.2 f.1 mf.1 with k | k
  · rcases f1.2 e.1 me.1 with j | j
    · have : e.1 = f.1 := asc_inj h me.1 mf.1 (by omega)
      exact Xs_share (Or.inl this) hx
    · exact hsep f e hf he hx.symm j
  · exact hsep e f he hf hx k
theorem neg_path {a z : Pt} {L : List Pt} (hL : L ≠ []) (ha : a.2 = 0) (hz : z.2 = 0) (s : Int) (hs : ∀ p ∈ L, 0 < s * p.2) : ∀ e ∈ path a (L ++ [z]), 0 ≤ s * e.1.2 ∧ 0 ≤ s * e.2.2 ∧ (0 < s * e.1.2 ∨ 0 < s * e.2.2) := by
  intro e he
  have z0 : s * z.2 = 0 := by rw [hz, Int.mul_zero]
  have a0 : s * a.2 = 0 := by rw [ha, Int.mul_zero]
  have snd : 0 ≤ s * e.2.2 := by
    rcases List.mem_append.mp (path_mem _ _ he).2 with k | k
    · exact Int.le_of_lt (hs _ k)
    · have : e.2 = z := by simpa using k
      rw [this]; omega
  have fst : 0 ≤ s * e.1.2 := by
    rcases List.mem_cons.mp (path_mem1 z L a he) with k | k
    · rw [k]; omega
    · exact Int.le_of_lt (hs _ k)
  refine ⟨fst, snd, ?_⟩
  match L, hL with
  | c :: L, _ =>
    rcases List.mem_cons.mp he with k | k
    · right; rw [k]; exact hs c List.mem_cons_self
    · left; exact hs _ (path_mem1 z L c k)
theorem saw_simp {far : Int} {l L H : List Pt} (h : SawI far l L H) : Simp l := by
  obtain ⟨h1, h2, h3, h4, h5, h6, h7⟩ := h
  have hfar : 0 < far := by
    match L, h2, h6 with
    | c :: L, _, h6 => have := h6 c List.mem_cons_self; omega
  have hR : H.reverse ≠ [] := by simpa using h3
  have A1 : Asc ((0, 0) :: (L ++ [(far, 0)])) := by
    refine List.pairwise_cons.mpr ⟨?_, List.pairwise_append.mpr ⟨h4, by simp, ?_⟩⟩
    · intro p hp
      rcases List.mem_append.mp hp with k | k
      · exact (h6 p k).1
      · have : p = (far, 0) := by simpa using k
        rw [this]; exact hfar
    · intro p hp q hq
      have : q = (far, 0) := by simpa using hq
      rw [this]; exact (h6 p hp).2.1
  have A2 : Asc ((0, 0) :: (H.reverse ++ [(far, 0)])) := by
    refine List.pairwise_cons.mpr ⟨?_, List.pairwise_append.mpr ⟨h5, by simp, ?_⟩⟩
    · intro p hp
      rcases List.mem_append.mp hp with k | k
      · exact (h7 p (List.mem_reverse.mp k)).1
      · have : p = (far, 0) := by simpa using k
        rw [this]; exact hfar
    · intro p hp q hq
      have : q = (far, 0) := by simpa using hq
      rw [this]; exact (h7 p (List.mem_reverse.mp hp)).2.1
  have hE : E l = path (0, 0) (L ++ [(far, 0)]) ++ ((path (0, 0) (H.reverse ++ [(far, 0)])).map sw).reverse := by
    rw [path_rev, List.reverse_reverse, h1]
    show path (0, 0) ((L ++ (far, 0) :: H) ++ [(0, 0)]) = _
    have : (L ++ (far, 0) :: H) ++ [((0 : Int), (0 : Int))] = L ++ (far, 0) :: (H ++ [(0, 0)]) := by simp
    rw [this, path_snoc]
  have inE : ∀ e ∈ E l, e ∈ path (0, 0) (L ++ [(far, 0)]) ∨ sw e ∈ path (0, 0) (H.reverse ++ [(far, 0)]) := by
    intro e he
    rw [hE] at he
    rcases List.mem_append.mp he with k | k
    · exact Or.inl k
    · obtain ⟨f, hf, k⟩ := List.mem_map.mp (List.mem_reverse.mp k)
      right; rw [← k]; exact hf
  have inl : ∀ p ∈ l, (p ∈ (0, 0) :: (L ++ [(far, 0)]) ∨ (0 < p.2 ∧ p ∈ H)) ∧ (p ∈ (0, 0) :: (H.reverse ++ [(far, 0)]) ∨ (p.2 < 0 ∧ p ∈ L)) := by
    intro p hp
    rw [h1] at hp
    simp only [List.mem_cons, List.mem_append, List.cons_append, List.mem_reverse, List.not_mem_nil, or_false] at hp ⊢
    rcases hp with k | k | k | k
    · exact ⟨Or.inl (Or.inl k), Or.inl (Or.inl k)⟩
    · exact ⟨Or.inl (Or.inr (Or.inl k)), Or.inr ⟨(h6 p k).2.2, k⟩⟩
    · exact ⟨Or.inl (Or.inr (Or.inr k)), Or.inl (Or.inr (Or.inr k))⟩
    · exact ⟨Or.inr ⟨(h7 p k).2.2, k⟩, Or.inl (Or.inr (Or.inl k))⟩
  have N1 := neg_path (a := (0, 0)) (z := (far, 0)) h2 rfl rfl (-1) (fun p hp => by have := h6 p hp; omega)
  have N2 := neg_path (a := (0, 0)) (z := (far, 0)) hR rfl rfl 1 (fun p hp => by have := h7 p (List.mem_reverse.mp hp); omega)
  refine ⟨?_, ?_, ?_, ?_⟩
  · -- Nodup
    have n1 : ((0, 0) :: (L ++ [(far, 0)])).Nodup := by
      refine List.Pairwise.imp ?_ A1
      intro p q hpq e; rw [e] at hpq; omega
    have n2 : H.Nodup := by
      have : H.reverse.Nodup := by
        refine List.Pairwise.imp ?_ h5
        intro p q hpq e; rw [e] at hpq; omega
      exact (List.reverse_perm H).nodup_iff.mp this
    rw [h1]
    have : (0, 0) :: L ++ (far, 0) :: H = ((0, 0) :: (L ++ [(far, 0)])) ++ H := by simp
    rw [this]
    refine List.nodup_append.mpr ⟨n1, n2, ?_⟩
    intro p hp q hq e
    have := (h7 q hq).2.2
    simp only [List.mem_cons, List.mem_append, List.not_mem_nil, or_false] at hp
    rcases hp with k | k | k
    · rw [← e, k] at this; simp at this
    · have := (h6 p k).2.2; rw [e] at this; omega
    · rw [← e, k] at this; simp at this
  · rw [h1]
    match L, h2, H, h3 with
    | c :: L, _, d :: H, _ => simp; omega
  · intro e he p hp ho
    rcases inE e he with k | k
    · rcases (inl p hp).1 with j | ⟨j, _⟩
      · exact asc_on A1 k j ho
      · have := N1 e k
        have := ho.box.2
        omega
    · rcases (inl p hp).2 with j | ⟨j, _⟩
      · exact (asc_on A2 k j ho.comm).symm
      · have k2 : 0 ≤ 1 * e.2.2 ∧ 0 ≤ 1 * e.1.2 ∧ (0 < 1 * e.2.2 ∨ 0 < 1 * e.1.2) := N2 (sw e) k
        have := ho.box.2
        omega
  · have mix : ∀ e f : Ed, e ∈ path (0, 0) (L ++ [(far, 0)]) → sw f ∈ path (0, 0) (H.reverse ++ [(far, 0)]) → ¬ Xs e.1 e.2 f.1 f.2 := by
      intro e f he hf hx
      have k1 := N1 e he
      have k2 : 0 ≤ 1 * f.2.2 ∧ 0 ≤ 1 * f.1.2 ∧ (0 < 1 * f.2.2 ∨ 0 < 1 * f.1.2) := N2 (sw f) hf
      obtain ⟨α, β, l', m, a1, a2, a3, a4, W⟩ := hx.mt
      obtain ⟨_, _, _, _, _, p6, _, p8⟩ := W
      have b1 := pn' (Int.le_of_lt a1) (show e.1.2 ≤ 0 by omega)
      have b2 := pn' (Int.le_of_lt a2) (show e.2.2 ≤ 0 by omega)
      have b3 := Int.mul_nonneg (Int.le_of_lt a3) (show 0 ≤ f.1.2 by omega)
      have b4 := Int.mul_nonneg (Int.le_of_lt a4) (show 0 ≤ f.2.2 by omega)
      rcases k1.2.2 with k | k
      · have := pn a1 (show e.1.2 < 0 by omega); omega
      · have := pn a2 (show e.2.2 < 0 by omega); omega
    intro e he f hf hx
    rcases inE e he with k | k <;> rcases inE f hf with j | j
    · exact asc_xs A1 k j hx
    · exact mix e f k j hx
    · exact mix f e j k hx.symm
    · exact asc_xs A2 k j (hx.swap.symm.swap.symm)
/-! straight maps -/
structure Aff where
  A : Int
  B : Int
  C : Int
  A' : Int
  B' : Int
  C' : Int
def Aff.f (k : Aff) (p : Pt) : Pt := (k.A * p.1 + k.B * p.2 + k.C, k.A' * p.1 + k.B' * p.2 + k.C')
def Aff.det (k : Aff) : Int := k.A * k.B' - k.B * k.A'
theorem turn_aff (k : Aff) (a b c : Pt) : turn (k.f a) (k.f b) (k.f c) = k.det * turn a b c := by unfold turn Aff.f Aff.det; grind
theorem aff_zero {k : Aff} (hk : k.det ≠ 0) {x y : Int} (h1 : k.A * x + k.B * y = 0) (h2 : k.A' * x + k.B' * y = 0) : x = 0 ∧ y = 0 := by
  have e1 : k.det * x = k.B' * (k.A * x + k.B * y) - k.B * (k.A' * x + k.B' * y) := by unfold Aff.det; grind
  have e2 : k.det * y = k.A * (k.A' * x + k.B' * y) - k.A' * (k.A * x + k.B * y) := by unfold Aff.det; grind
  rw [h1, h2] at e1 e2
  constructor
  · rcases Int.mul_eq_zero.mp (show k.det * x = 0 by rw [e1]; omega) with h | h
    · exact absurd h hk
    · exact h
  · rcases Int.mul_eq_zero.mp (show k.det * y = 0 by rw [e2]; omega) with h | h
    · exact absurd h hk
    · exact h
theorem aff_inj {k : Aff} (hk : k.det ≠ 0) {p q : Pt} (e : k.f p = k.f q) : p = q := by
  have e1 : k.A * p.1 + k.B * p.2 + k.C = k.A * q.1 + k.B * q.2 + k.C := congrArg Prod.fst e
  have e2 : k.A' * p.1 + k.B' * p.2 + k.C' = k.A' * q.1 + k.B' * q.2 + k.C' := congrArg Prod.snd e
  obtain ⟨z1, z2⟩ := aff_zero hk (x := p.1 - q.1) (y := p.2 - q.2) (by grind) (by grind)
  exact Prod.ext (by omega) (by omega)
theorem On_aff {k : Aff} (hk : k.det ≠ 0) {a b c : Pt} (h : On (k.f a) (k.f b) (k.f c)) : On a b c := by
  by_cases hab : a = b
  · subst hab
    have := aff_inj hk (On_eq h)
    rw [this]; exact On_l _ _
  · obtain ⟨α, β, h1, h2, h3, h4, h5⟩ := h.wt (fun e => hab (aff_inj hk e))
    unfold Aff.f at h4 h5
    simp only at h4 h5
    obtain ⟨z1, z2⟩ := aff_zero hk (x := α * a.1 + β * b.1 - (α + β) * c.1) (y := α * a.2 + β * b.2 - (α + β) * c.2) (by grind) (by grind)
    exact On_of_wt h1 h2 h3 (by omega) (by omega)
theorem Simp.aff {l : List Pt} (h : Simp l) {k : Aff} (hk : k.det ≠ 0) : Simp (l.map k.f) := by
  refine ⟨?_, ?_, ?_, ?_⟩
  · exact List.Pairwise.map _ (fun a b hab e => hab (aff_inj hk e)) h.nd
  · rw [List.length_map]; exact h.len
  · intro e he p hp ho
    rw [E_map] at he
    obtain ⟨e', he', rfl⟩ := List.mem_map.mp he
    obtain ⟨p', hp', rfl⟩ := List.mem_map.mp hp
    rcases h.on e' he' p' hp' (On_aff hk ho) with h1 | h1
    · exact Or.inl (congrArg _ h1)
    · exact Or.inr (congrArg _ h1)
  · intro e he f hf hx
    rw [E_map] at he hf
    obtain ⟨e', he', rfl⟩ := List.mem_map.mp he
    obtain ⟨f', hf', rfl⟩ := List.mem_map.mp hf
    refine h.xs e' he' f' hf' ?_
    have hq : 0 < k.det * k.det := sq_pos hk
    have e1 : ∀ x y : Int, k.det * x * (k.det * y) = (k.det * k.det) * (x * y) := by intro x y; grind
    unfold Xs at hx ⊢
    rw [turn_aff, turn_aff, turn_aff, turn_aff, e1, e1, mul_neg_iff hq, mul_neg_iff hq] at hx
    exact hx
theorem tele (ψ : Pt → Int) : ∀ (L : List Pt) (a : Pt), ((path a L).map fun e => ψ e.2 - ψ e.1).sum = ψ (en a L) - ψ a
  | [], a => by show (0 : Int) = ψ a - ψ a; omega
  | c :: L, a => by
    show (ψ c - ψ a) + ((path c L).map fun e => ψ e.2 - ψ e.1).sum = ψ (en c L) - ψ a
    rw [tele ψ L c]; omega
theorem teleE (ψ : Pt → Int) : ∀ l : List Pt, ((E l).map fun e => ψ e.2 - ψ e.1).sum = 0
  | [] => rfl
  | v :: L => by
    show ((path v (L ++ [v])).map fun e => ψ e.2 - ψ e.1).sum = 0
    rw [tele, en_snoc]; omega
theorem sum_lin {α : Type} (k : Int) (f g : α → Int) : ∀ S : List α, (S.map fun e => k * f e + g e).sum = k * (S.map f).sum + (S.map g).sum
  | [] => by show (0 : Int) = k * 0 + 0; omega
  | e :: S => by
    rw [List.map_cons, List.map_cons, List.map_cons, List.sum_cons, List.sum_cons, List.sum_cons, sum_lin k f g S, Int.mul_add]; omega
theorem ar_aff (k : Aff) (l : List Pt) : ar (l.map k.f) = k.det * ar l := by
  unfold ar
  rw [E_map, List.map_map]
  have e : ((E l).map ((fun e => crossT e.1 e.2) ∘ fun e => (k.f e.1, k.f e.2))) = (E l).map fun e => k.det * crossT e.1 e.2 + ((fun p : Pt => k.C * (k.A' * p.1 + k.B' * p.2) - k.C' * (k.A * p.1 + k.B * p.2)) e.2 - (fun p : Pt => k.C * (k.A' * p.1 + k.B' * p.2) - k.C' * (k.A * p.1 + k.B * p.2)) e.1) := by
    apply List.map_congr_left
    intro e _
    show crossT (k.f e.1) (k.f e.2) = _
    unfold crossT Aff.f Aff.det; grind
  have t := teleE (fun p : Pt => k.C * (k.A' * p.1 + k.B' * p.2) - k.C' * (k.A * p.1 + k.B * p.2)) l
  rw [e, sum_lin k.det (fun e : Ed => crossT e.1 e.2)]
  exact (congrArg (fun x => k.det * ((E l).map fun e => crossT e.1 e.2).sum + x) t).trans (Int.add_zero _)
/-! in order -/
theorem Rot_rev : ∀ l : List Pt, Rot l.reverse (rev l)
  | [] => Rot.refl _
  | v :: L => by
    rw [List.reverse_cons]
    exact Rot_app L.reverse [v]
theorem Rot_rot (l : List Pt) (k : Nat) : Rot l (PG.rot l k) := by
  have := Rot_app (l.take k) (l.drop k)
  rw [List.take_append_drop] at this
  exact this
theorem Ccw_orient {l : List Pt} (h : Simp l) : Ccw (PG.orient l) := by
  unfold PG.orient
  rw [area_ar]
  split
  · have hr := (Rot_rev l).symm
    refine ⟨h.rev.rot hr, ?_⟩
    rw [← hr.ar, ar_rev]; omega
  · have := ar_ne h
    exact ⟨h, by omega⟩
theorem Ccw_inOrder {l : List Pt} (h : Simp l) : Ccw (PG.inOrder l) := by
  unfold PG.inOrder
  exact (Ccw_orient h).rot (Rot_rot _ _)
theorem base_simp (n w : Int) (hw : 0 < w) : Simp (PG.base n w) := by
  unfold PG.base
  dsimp only
  split
  · obtain ⟨L, H, h⟩ := PG.saw_inv (n / 2) w hw
    exact saw_simp h
  · rename_i hg
    refine good_simp ?_ ?_
    · cases hx : good (PG.spots (n / 2) w (3 + n / 2 % 5).toNat)
      · exact absurd (Or.inr hx) hg
      · rfl
    · unfold PG.spots; rw [List.length_map, List.length_range]; omega
theorem Ccw_plot (n w : Int) (hw : 0 < w) : Ccw (PG.plot n w) := by
  unfold PG.plot
  apply Ccw_inOrder
  have := (base_simp n w hw).aff (k := ⟨1, 0, - (n / 512 % 3 * w / 4), 0, 1, 0⟩) (by unfold Aff.det; simp)
  have e : (PG.base n w).map (Aff.f ⟨1, 0, - (n / 512 % 3 * w / 4), 0, 1, 0⟩) = (PG.base n w).map fun p => (p.1 - n / 512 % 3 * w / 4, p.2) := by
    apply List.map_congr_left
    intro p _
    unfold Aff.f
    simp only
    exact Prod.ext (by simp only; omega) (by simp only; omega)
  rw [← e]; exact this
end GE

set_option linter.all false
set_option maxHeartbeats 1000000
/-! GM: the fence; bounds. -/
namespace GE
open PG (Pt turn onB crossT at_ nx area)
def gc (a b : Pt) : Int := (Int.gcd (b.1 - a.1) (b.2 - a.2) : Int)
def fe (l : List Pt) : Int := ((E l).map fun e => gc e.1 e.2).sum
def fence (l : List Pt) : Int := ((List.range l.length).map fun i => gc (at_ l i) (nx l (i + 1))).sum
theorem fence_fe (l : List Pt) : fence l = fe l := by
  unfold fence fe
  rw [E_range, List.map_map]; rfl
theorem Rot.fe {l m : List Pt} (h : Rot l m) : fe l = fe m := perm_sum (h.2.map _)
theorem gc_symm (a b : Pt) : gc b a = gc a b := by
  unfold gc
  have e1 : a.1 - b.1 = -(b.1 - a.1) := by omega
  have e2 : a.2 - b.2 = -(b.2 - a.2) := by omega
  rw [e1, e2, Int.neg_gcd, Int.gcd_neg]
theorem fe_rev (l : List Pt) : fe (rev l) = fe l := by
  unfold fe
  rw [perm_sum ((E_rev_perm l).map _), List.map_map]
  congr 1
  apply List.map_congr_left
  intro e _
  exact gc_symm e.1 e.2
theorem mul_box {a b X Y : Int} (h1 : -X ≤ a) (h2 : a ≤ X) (h3 : -Y ≤ b) (h4 : b ≤ Y) : -(X * Y) ≤ a * b ∧ a * b ≤ X * Y := by
  have e1 := Int.mul_nonneg (show 0 ≤ X - a by omega) (show 0 ≤ Y + b by omega)
  have e2 := Int.mul_nonneg (show 0 ≤ X + a by omega) (show 0 ≤ Y - b by omega)
  have e3 := Int.mul_nonneg (show 0 ≤ X - a by omega) (show 0 ≤ Y - b by omega)
  have e4 := Int.mul_nonneg (show 0 ≤ X + a by omega) (show 0 ≤ Y + b by omega)
  constructor <;> grind
theorem sum_le {α : Type} (f : α → Int) (K : Int) : ∀ S : List α, (∀ e ∈ S, f e ≤ K) → (S.map f).sum ≤ S.length * K
  | [], _ => by simp
  | e :: S, h => by
    have h1 := h e List.mem_cons_self
    have h2 := sum_le f K S fun x hx => h x (List.mem_cons_of_mem _ hx)
    rw [List.map_cons, List.sum_cons, List.length_cons, Int.natCast_add, Int.add_mul]
    omega
theorem sum_ge {α : Type} (f : α → Int) (K : Int) : ∀ S : List α, (∀ e ∈ S, K ≤ f e) → S.length * K ≤ (S.map f).sum
  | [], _ => by simp
  | e :: S, h => by
    have h1 := h e List.mem_cons_self
    have h2 := sum_ge f K S fun x hx => h x (List.mem_cons_of_mem _ hx)
    rw [List.map_cons, List.sum_cons, List.length_cons, Int.natCast_add, Int.add_mul]
    omega
def InBox (cx cy X Y : Int) (p : Pt) : Prop := -X ≤ p.1 - cx ∧ p.1 - cx ≤ X ∧ -Y ≤ p.2 - cy ∧ p.2 - cy ≤ Y
theorem ar_box {l : List Pt} {cx cy X Y : Int} (h : ∀ p ∈ l, InBox cx cy X Y p) : ar l ≤ l.length * (2 * (X * Y)) := by
  have e := ar_aff ⟨1, 0, -cx, 0, 1, -cy⟩ l
  have d : Aff.det ⟨1, 0, -cx, 0, 1, -cy⟩ = 1 := by unfold Aff.det; simp
  rw [d, Int.one_mul] at e
  rw [← e]
  unfold ar
  rw [E_map, List.map_map]
  refine Int.le_trans (sum_le _ (2 * (X * Y)) _ ?_) ?_
  · intro f hf
    have h1 := h _ (E_mem hf).1
    have h2 := h _ (E_mem hf).2
    unfold InBox at h1 h2
    show crossT (Aff.f ⟨1, 0, -cx, 0, 1, -cy⟩ f.1) (Aff.f ⟨1, 0, -cx, 0, 1, -cy⟩ f.2) ≤ _
    unfold crossT Aff.f
    simp only [Int.one_mul, Int.zero_mul, Int.add_zero, Int.zero_add]
    have k1 := mul_box (a := f.1.1 + -cx) (b := f.2.2 + -cy) (X := X) (Y := Y) (by omega) (by omega) (by omega) (by omega)
    have k2 := mul_box (a := f.2.1 + -cx) (b := f.1.2 + -cy) (X := X) (Y := Y) (by omega) (by omega) (by omega) (by omega)
    rw [Int.mul_comm (f.1.2 + -cy)]
    omega
  · rw [E_len]; exact Int.le_refl _
theorem gc_le {a b : Pt} {K : Int} (h1 : -K ≤ b.1 - a.1) (h2 : b.1 - a.1 ≤ K) (h3 : -K ≤ b.2 - a.2) (h4 : b.2 - a.2 ≤ K) : gc a b ≤ K := by
  unfold gc
  by_cases h : b.1 - a.1 = 0
  · rw [h, Int.gcd_comm, Int.gcd_zero_right]; omega
  · have := Int.gcd_le_natAbs_left (b.2 - a.2) h; omega
theorem gc_pos {a b : Pt} (h : a ≠ b) : 1 ≤ gc a b := by
  unfold gc
  have : 0 < Int.gcd (b.1 - a.1) (b.2 - a.2) := by
    rcases Nat.eq_zero_or_pos (Int.gcd (b.1 - a.1) (b.2 - a.2)) with h0 | h0
    · exfalso
      have := Int.gcd_eq_zero_iff.mp h0
      exact h (Prod.ext (by omega) (by omega))
    · exact h0
  omega
theorem fe_box {l : List Pt} {cx cy X Y K : Int} (h : ∀ p ∈ l, InBox cx cy X Y p) (hX : 2 * X ≤ K) (hY : 2 * Y ≤ K) : fe l ≤ l.length * K := by
  unfold fe
  rw [← E_len]
  refine sum_le _ K _ ?_
  intro e he
  have h1 := h _ (E_mem he).1
  have h2 := h _ (E_mem he).2
  unfold InBox at h1 h2
  exact gc_le (by omega) (by omega) (by omega) (by omega)
theorem fe_ge {l : List Pt} (h : Simp l) : 3 ≤ fe l := by
  have := sum_ge (fun e : Ed => gc e.1 e.2) 1 (E l) fun e he => gc_pos (h.ne he)
  have hl := h.len
  rw [E_len] at this
  unfold fe; omega
/-! where a plot lies -/
theorem mem_inOrder {l : List Pt} {p : Pt} : p ∈ PG.inOrder l ↔ p ∈ l := by
  unfold PG.inOrder
  rw [← (Rot_rot _ _).mem]
  unfold PG.orient
  split
  · exact List.mem_reverse
  · exact Iff.rfl
theorem len_inOrder (l : List Pt) : (PG.inOrder l).length = l.length := by
  unfold PG.inOrder
  rw [← (Rot_rot _ _).len]
  unfold PG.orient
  split
  · exact List.length_reverse
  · rfl
theorem trim1_sub {l : List Pt} {p : Pt} (h : p ∈ PG.trim1 l) : p ∈ l := by
  unfold PG.trim1 at h
  obtain ⟨i, hi, e⟩ := List.mem_map.mp h
  have hi := List.mem_range.mp (List.mem_filter.mp hi).1
  rw [← e]; unfold at_
  rw [List.getD_eq_getElem?_getD, List.getElem?_eq_getElem hi]
  exact List.getElem_mem hi
theorem trim1_short (l : List Pt) : (PG.trim1 l).length ≤ l.length := by
  unfold PG.trim1
  rw [List.length_map]
  exact Nat.le_trans (List.length_filter_le _ _) (by rw [List.length_range]; exact Nat.le_refl _)
theorem trim_sub : ∀ (k : Nat) {l : List Pt} {p : Pt}, p ∈ PG.trim k l → p ∈ l
  | 0, l, p, h => h
  | k + 1, l, p, h => by
    unfold PG.trim at h
    split at h
    · exact h
    · exact trim1_sub (trim_sub k h)
theorem trim_short : ∀ (k : Nat) (l : List Pt), (PG.trim k l).length ≤ l.length
  | 0, l => Nat.le_refl _
  | k + 1, l => by
    unfold PG.trim
    split
    · exact Nat.le_refl _
    · exact Nat.le_trans (trim_short k _) (trim1_short l)
theorem saw_box (n w : Int) (hw : 0 < w) : (∀ p ∈ PG.saw n w, 0 ≤ p.1 ∧ p.1 ≤ 6 ∧ -w ≤ p.2 ∧ p.2 ≤ w) ∧ (PG.saw n w).length ≤ 12 := by
  constructor
  · intro p hp
    have hp := trim_sub _ hp
    unfold PG.saw0 PG.max2 at hp
    simp only [List.mem_append, List.mem_cons, List.mem_map, List.mem_range, List.not_mem_nil, or_false, List.cons_append, List.nil_append] at hp
    rcases hp with e | h
    · rw [e]; simp; omega
    · rcases h with (⟨k, hk, e⟩ | e) | ⟨k, hk, e⟩
      · rw [← e]
        have h1 := Int.emod_nonneg (PG.drawn n k) (show w ≠ 0 by omega)
        have h2 := Int.emod_lt_of_pos (PG.drawn n k) hw
        simp only; omega
      · rw [e]; simp only; split <;> omega
      · rw [← e]
        have h1 := Int.emod_nonneg (PG.drawn n (9 + (k : Int))) (show w ≠ 0 by omega)
        have h2 := Int.emod_lt_of_pos (PG.drawn n (9 + (k : Int))) hw
        simp only; split <;> omega
  · refine Nat.le_trans (trim_short _ _) ?_
    unfold PG.saw0
    simp only [List.length_append, List.length_cons, List.length_map, List.length_range, List.length_nil]
    omega
theorem spots_box (n w : Int) (m : Nat) (hw : 0 < w) : (∀ p ∈ PG.spots n w m, 0 ≤ p.1 ∧ p.1 < w ∧ 0 ≤ p.2 ∧ p.2 < w) ∧ (PG.spots n w m).length = m := by
  constructor
  · intro p hp
    unfold PG.spots at hp
    obtain ⟨k, hk, e⟩ := List.mem_map.mp hp
    rw [← e]
    exact ⟨Int.emod_nonneg _ (by omega), Int.emod_lt_of_pos _ hw, Int.emod_nonneg _ (by omega), Int.emod_lt_of_pos _ hw⟩
  · unfold PG.spots; rw [List.length_map, List.length_range]
/-- a plot lies in a box: spots in one of 100 by 100, or a saw -/
theorem plot_box (n w : Int) (hw : 0 < w) (hw2 : w ≤ 100) : ∃ cx : Int, ((∀ p ∈ PG.plot n w, InBox cx 50 50 50 p) ∧ (PG.plot n w).length ≤ 7) ∨ ((∀ p ∈ PG.plot n w, InBox cx 0 3 100 p) ∧ (PG.plot n w).length ≤ 12) := by
  generalize hy : n / 512 % 3 * w / 4 = y
  have hmem : ∀ p ∈ PG.plot n w, ∃ q ∈ PG.base n w, p = (q.1 - y, q.2) := by
    intro p hp
    unfold PG.plot at hp
    have := mem_inOrder.mp hp
    obtain ⟨q, hq, e⟩ := List.mem_map.mp this
    exact ⟨q, hq, by rw [← e, ← hy]⟩
  have hlen : (PG.plot n w).length = (PG.base n w).length := by unfold PG.plot; rw [len_inOrder, List.length_map]
  rw [hlen]
  unfold PG.base at hmem ⊢
  dsimp only at hmem ⊢
  split at hmem
  · rename_i hc
    rw [if_pos hc]
    obtain ⟨s1, s2⟩ := saw_box (n / 2) w hw
    refine ⟨3 - y, Or.inr ⟨fun p hp => ?_, s2⟩⟩
    obtain ⟨q, hq, e⟩ := hmem p hp
    have := s1 q hq
    rw [e]; unfold InBox; simp only; omega
  · rename_i hc
    rw [if_neg hc]
    obtain ⟨s1, s2⟩ := spots_box (n / 2) w (3 + n / 2 % 5).toNat hw
    refine ⟨50 - y, Or.inl ⟨fun p hp => ?_, by omega⟩⟩
    obtain ⟨q, hq, e⟩ := hmem p hp
    have := s1 q hq
    rw [e]; unfold InBox; simp only; omega
theorem plot_nums (n w : Int) (hw : 0 < w) (hw2 : w ≤ 100) : 1 ≤ ar (PG.plot n w) ∧ ar (PG.plot n w) ≤ 80000 ∧ 3 ≤ fe (PG.plot n w) ∧ fe (PG.plot n w) ≤ 3000 := by
  have hc := Ccw_plot n w hw
  have h1 := hc.pos
  have h2 := fe_ge hc.simp
  obtain ⟨cx, h | h⟩ := plot_box n w hw hw2
  · have a := ar_box h.1
    have b := fe_box (K := 100) h.1 (by decide) (by decide)
    omega
  · have a := ar_box h.1
    have b := fe_box (K := 200) h.1 (by decide) (by decide)
    omega
end GE

set_option linter.all false
set_option maxHeartbeats 1000000
/-! GN: both windings, told by ears. -/
namespace GE
open PG (Pt turn onB)
def cm (a b q : Pt) : Int := if a.2 < q.2 ∧ q.2 ≤ b.2 ∧ 0 ≤ turn a b q then 1 else if b.2 < q.2 ∧ q.2 ≤ a.2 ∧ turn a b q ≤ 0 then -1 else 0
def cf (a b q : Pt) : Int := cr a b q + cm a b q
theorem cm_anti (a b q : Pt) : cm b a q = - cm a b q := by
  unfold cm
  rw [turn_swap a b q]
  split <;> split <;> (try split) <;> omega
theorem cf_anti (a b q : Pt) : cf b a q = - cf a b q := by unfold cf; rw [cr_anti, cm_anti]; omega
def fw (l : List Pt) (q : Pt) : Int := ((E l).map fun e => cf e.1 e.2 q).sum
def ps (q p : Pt) : Int := if p.2 = q.2 ∧ q.1 < p.1 then 1 else 0
theorem on_row {a b q : Pt} (h0 : turn a b q = 0) (h1 : a.2 < q.2) (h2 : q.2 < b.2) : On a b q := by
  unfold turn at h0
  refine On_of_wt (α := b.2 - q.2) (β := q.2 - a.2) (by omega) (by omega) (by omega) ?_ ?_
  · grind
  · grind
theorem cr_cm_up {a b q : Pt} (h : a.2 ≤ b.2) (ho : ¬ On a b q) : cr a b q - cm a b q = ps q a - ps q b := by
  have hz : turn a b q = 0 → ¬ (a.2 < q.2 ∧ q.2 < b.2) := fun h0 ⟨h1, h2⟩ => ho (on_row h0 h1 h2)
  rw [cr_up h]
  have hcm : cm a b q = if a.2 < q.2 ∧ q.2 ≤ b.2 ∧ 0 ≤ turn a b q then 1 else 0 := by
    unfold cm
    split
    · rfl
    · rw [if_neg (by omega)]
  rw [hcm]
  unfold ps
  by_cases hq1 : a.2 = q.2
  · by_cases hq2 : b.2 = q.2
    · -- level
      have hb : ¬ ((a.1 ≤ q.1 ∧ q.1 ≤ b.1) ∨ (b.1 ≤ q.1 ∧ q.1 ≤ a.1)) := by
        intro hb
        apply ho
        refine ⟨by unfold turn; rw [hq1, hq2]; simp, ?_⟩
        have := btw_le hb
        unfold dt; rw [hq1, hq2]; simp; exact this
      rw [if_neg (by omega), if_neg (by omega)]
      split <;> split <;> omega
    · have e : turn a b q = (b.2 - a.2) * (a.1 - q.1) := by unfold turn; rw [hq1]; grind
      have hp : 0 < b.2 - a.2 := by omega
      have p1 : 0 < turn a b q ↔ 0 < a.1 - q.1 := by rw [e]; exact mul_pos_iff hp
      clear hz e
      split <;> split <;> split <;> split <;> omega
  · by_cases hq2 : b.2 = q.2
    · have e : turn a b q = (b.2 - a.2) * (b.1 - q.1) := by unfold turn; rw [hq2]; grind
      by_cases hab : a.2 = b.2
      · omega
      have hp : 0 < b.2 - a.2 := by omega
      have hne : b.1 ≠ q.1 := by
        intro e1
        have : q = b := Prod.ext e1.symm hq2.symm
        exact ho (by rw [this]; exact On_r _ _)
      have p1 : 0 < turn a b q ↔ 0 < b.1 - q.1 := by rw [e]; exact mul_pos_iff hp
      have p2 : 0 ≤ turn a b q ↔ 0 ≤ b.1 - q.1 := by rw [e]; exact mul_nn_iff hp
      clear hz e
      split <;> split <;> split <;> split <;> omega
    · split <;> split <;> split <;> split <;> omega
theorem cr_cm {a b q : Pt} (ho : ¬ On a b q) : cr a b q - cm a b q = ps q a - ps q b := by
  by_cases h : a.2 ≤ b.2
  · exact cr_cm_up h ho
  · have := cr_cm_up (a := b) (b := a) (q := q) (by omega) (fun o => ho o.comm)
    rw [cr_anti, cm_anti] at this
    omega
theorem sum_add {α : Type} (f g : α → Int) : ∀ S : List α, (S.map fun e => f e + g e).sum = (S.map f).sum + (S.map g).sum
  | [] => rfl
  | e :: S => by
    rw [List.map_cons, List.map_cons, List.map_cons, List.sum_cons, List.sum_cons, List.sum_cons, sum_add f g S]; omega
theorem sum_congr {α : Type} {f g : α → Int} {S : List α} (h : ∀ e ∈ S, f e = g e) : (S.map f).sum = (S.map g).sum := congrArg _ (List.map_congr_left h)
/-- off the sides both windings are one -/
theorem fw_off {l : List Pt} {q : Pt} (h : Offl l q) : fw l q = 2 * wi l q := by
  have t := teleE (ps q) l
  have e : fw l q = 2 * wi l q + ((E l).map fun e => ps q e.2 - ps q e.1).sum := by
    unfold fw wi wE
    rw [← sum_lin 2 (fun e : Ed => cr e.1 e.2 q)]
    apply sum_congr
    intro e he
    have := cr_cm (h e he)
    unfold cf; omega
  omega
theorem Rot.fw {l m : List Pt} (h : Rot l m) (q : Pt) : fw l q = fw m q := perm_sum (h.2.map _)
def fT (a b c q : Pt) : Int := cf a b q + cf b c q + cf c a q
theorem fw_ear (a y c : Pt) (M : List Pt) (q : Pt) : fw (a :: y :: c :: M) q = fw (a :: c :: M) q + fT a y c q := by
  unfold fw fT
  rw [E_ear, E_cut, List.map_cons, List.map_cons, List.map_cons, List.sum_cons, List.sum_cons, List.sum_cons, cf_anti a c]
  simp only
  omega
theorem fw_tri (a b c q : Pt) : fw [a, b, c] q = fT a b c q := by
  unfold fw fT
  show ((path a [b, c, a]).map fun e => cf e.1 e.2 q).sum = _
  simp [path]; omega
theorem fT_rot (a b c q : Pt) : fT b c a q = fT a b c q := by unfold fT; omega
theorem tri_offl {a b c q : Pt} (hD : 0 < turn a b c) (h : ¬ InT a b c q) : Offl [a, b, c] q := by
  intro e he ho
  have he : e ∈ [(a, b), (b, c), (c, a)] := he
  simp only [List.mem_cons, List.not_mem_nil, or_false] at he
  rcases he with k | k | k
  · subst k; exact h (On.inT hD ho)
  · subst k; exact h (On.inT (by rw [turn_rot]; exact hD) ho).rot.rot
  · subst k; exact h (On.inT (by rw [turn_rot, turn_rot]; exact hD) ho).rot
theorem fT_out {a b c q : Pt} (hD : 0 < turn a b c) (h : ¬ InT a b c q) : fT a b c q = 0 := by
  rw [← fw_tri, fw_off (tri_offl hD h)]
  have : wi [a, b, c] q = cr a b q + cr b c q + cr c a q := by
    unfold wi E path wE; simp [path]; omega
  rw [this, tri_out hD h]; rfl
theorem edge_num {x y z α β : Int} (hα : 0 < α) (hβ : 0 < β) (e : α * x + β * y = 0) : (x = 0 ∧ y = 0) ∨ (x < 0 ∧ 0 < y) ∨ (0 < x ∧ y < 0) := by
  rcases Int.lt_trichotomy x 0 with h | h | h
  · have := pn hα h
    have := sgn_pos hβ (show 0 < β * y by omega)
    omega
  · subst h
    have := sgn_z hβ (show β * y = 0 by omega)
    omega
  · have := Int.mul_pos hα h
    have := sgn_neg hβ (show β * y < 0 by omega)
    omega
/-- on an open side: once -/
theorem fT_edge {a b c q : Pt} (hD : 0 < turn a b c) (h0 : turn a b q = 0) (h1 : 0 < turn b c q) (h2 : 0 < turn c a q) : fT a b c q = 1 := by
  have e2 := bary_2 a b c q
  have es := bary_sum a b c q
  have hz : a.2 = q.2 → b.2 = q.2 → c.2 = q.2 → False := by
    intro z1 z2 z3
    unfold turn at hD
    rw [z1, z2, z3] at hD
    simp at hD
  unfold fT cf cr cm
  generalize turn a b q = γ at *
  generalize turn b c q = α at *
  generalize turn c a q = β at *
  subst h0
  rw [← es] at e2
  have e3 : α * (a.2 - q.2) + β * (b.2 - q.2) = 0 := by grind
  have k := edge_num (z := 0) h1 h2 e3
  clear e2 e3 es
  rcases k with ⟨k1, k2⟩ | ⟨k1, k2⟩ | ⟨k1, k2⟩
  · have : c.2 ≠ q.2 := fun z => hz (by omega) (by omega) z
    clear hz
    rcases Int.lt_or_gt_of_ne this with h | h <;> simp [*] <;> grind
  · clear hz; grind
  · clear hz; grind
theorem fT_verts {a b c : Pt} (hD : 0 < turn a b c) : fT a b c a + fT a b c b + fT a b c c = 1 := by
  have hz : ¬ (a.2 = b.2 ∧ b.2 = c.2) := by
    rintro ⟨z1, z2⟩
    unfold turn at hD
    rw [z1, z2] at hD
    simp at hD
  have r1 : turn b c a = turn a b c := turn_rot a b c
  have r2 : turn c a b = turn a b c := by rw [turn_rot, turn_rot]
  unfold fT cf cr cm
  rw [turn_aba, turn_abb, turn_aba, turn_abb, turn_aba, turn_abb, r1, r2]
  generalize turn a b c = D at *
  generalize a.2 = x at *
  generalize b.2 = y at *
  generalize c.2 = z at *
  have hD' : 0 ≤ D := by omega
  have hD'' : ¬ D ≤ 0 := by omega
  have hD3 : ¬ D < 0 := by omega
  simp only [hD, hD', hD'', hD3, and_true, and_false, if_false, Int.le_refl, Int.lt_irrefl, false_and, true_and]
  rcases Int.lt_trichotomy x y with h1 | h1 | h1 <;> rcases Int.lt_trichotomy y z with h2 | h2 | h2 <;> rcases Int.lt_trichotomy x z with h3 | h3 | h3 <;> first | omega | (simp [*]; grind) | grind
/-! by ears -/
theorem Ccw.ind {P : List Pt → Prop} (hr : ∀ l m, Rot l m → P l → P m) (h3 : ∀ u v w, 0 < turn u v w → P [u, v, w])
    (hs : ∀ a y c M, M ≠ [] → Ccw (a :: y :: c :: M) → Ear (a :: y :: c :: M) a y c → P (a :: c :: M) → P (a :: y :: c :: M)) : ∀ (n : Nat) (l : List Pt), l.length = n → Ccw l → P l := by
  intro n
  induction n using Nat.strongRecOn with
  | ind n ih =>
    intro l hn h
    obtain ⟨a, y, c, r1, r2, r5⟩ := h.ear
    obtain ⟨K, hK⟩ := Rot_two h.simp.nd h.simp.len r1 r2
    refine hr _ _ hK.symm ?_
    by_cases hKn : K = []
    · subst hKn; exact h3 a y c r5.1
    · have hc := h.rot hK
      have he := r5.rot hK
      exact hs a y c K hKn hc he (ih (a :: c :: K).length (by rw [← hn, hK.len]; simp) _ rfl (hc.cut he hKn))
def cnt (S : List Ed) (q : Pt) : Int := (S.map fun e => if onB e.1 e.2 q = true then (1 : Int) else 0).sum
theorem cnt_cons (e : Ed) (S : List Ed) (q : Pt) : cnt (e :: S) q = (if onB e.1 e.2 q = true then (1 : Int) else 0) + cnt S q := by unfold cnt; rw [List.map_cons, List.sum_cons]
theorem cnt_nn (q : Pt) : ∀ S : List Ed, 0 ≤ cnt S q
  | [] => by unfold cnt; simp
  | e :: S => by
    have := cnt_nn q S
    rw [cnt_cons]; split <;> omega
theorem cnt_pos {q : Pt} : ∀ {S : List Ed} {e : Ed}, e ∈ S → On e.1 e.2 q → 1 ≤ cnt S q
  | f :: S, e, h, ho => by
    rw [cnt_cons]
    have := cnt_nn q S
    rcases List.mem_cons.mp h with k | k
    · rw [← k, if_pos ((On_iff _ _ _).mpr ho)]; omega
    · have := cnt_pos k ho
      split <;> omega
theorem cnt_zero {q : Pt} : ∀ {S : List Ed}, (∀ e ∈ S, ¬ On e.1 e.2 q) → cnt S q = 0
  | [], _ => rfl
  | f :: S, h => by
    rw [cnt_cons, cnt_zero fun e he => h e (List.mem_cons_of_mem _ he)]
    rw [if_neg (fun k => h f List.mem_cons_self ((On_iff _ _ _).mp k))]; rfl
theorem Rot.cnt {l m : List Pt} (h : Rot l m) (q : Pt) : cnt (E l) q = cnt (E m) q := perm_sum (h.2.map _)
/-- a point on two sides of a triangle is a corner -/
theorem two_sides {a b c q : Pt} (hD : 0 < turn a b c) (h1 : turn a b q = 0) (h2 : turn b c q = 0) : q = b := by
  have e1 := bary_1 a b c q
  have e2 := bary_2 a b c q
  have es := bary_sum a b c q
  rw [h1, h2] at e1 e2 es
  have e3 : turn c a q = turn a b c := by omega
  rw [e3] at e1 e2
  have k1 : turn a b c * b.1 = turn a b c * q.1 := by omega
  have k2 : turn a b c * b.2 = turn a b c * q.2 := by omega
  exact (Prod.ext (Int.eq_of_mul_eq_mul_left (by omega) k1) (Int.eq_of_mul_eq_mul_left (by omega) k2)).symm
structure PickI (l : List Pt) : Prop where
  one : ∀ q, q ∉ l → ∀ e ∈ E l, On e.1 e.2 q → fw l q = 1
  sum : (l.map fun p => fw l p).sum = l.length - 2
  cnt : ∀ q, q ∉ l → cnt (E l) q ≤ 1
theorem open_side {a b c q : Pt} (hD : 0 < turn a b c) (ho : On a b q) (h1 : q ≠ a) (h2 : q ≠ b) : turn a b q = 0 ∧ 0 < turn b c q ∧ 0 < turn c a q := by
  have hi := On.inT hD ho
  refine ⟨ho.1, ?_, ?_⟩
  · rcases Int.lt_or_eq_of_le hi.2.1 with h | h
    · exact h
    · exact absurd (two_sides hD ho.1 h.symm) h2
  · rcases Int.lt_or_eq_of_le hi.2.2 with h | h
    · exact h
    · exact absurd (two_sides (by rw [turn_rot, turn_rot]; exact hD) h.symm ho.1) h1
theorem PickI_of {l : List Pt} (h : Ccw l) : PickI l := by
  refine Ccw.ind (P := PickI) ?_ ?_ ?_ _ l rfl h
  · intro l m hr hp
    refine ⟨?_, ?_, ?_⟩
    · intro q hq e he ho
      rw [← hr.fw]; exact hp.one q (fun k => hq ((hr.mem q).mp k)) e ((hr.memE e).mpr he) ho
    · rw [← hr.len, ← hp.sum, perm_sum (hr.symm.1.map _)]
      exact sum_congr fun p _ => (hr.fw p).symm
    · intro q hq
      rw [← hr.cnt]; exact hp.cnt q (fun k => hq ((hr.mem q).mp k))
  · intro u v w hD
    have hD1 : 0 < turn v w u := by rw [turn_rot]; exact hD
    have hD2 : 0 < turn w u v := by rw [turn_rot, turn_rot]; exact hD
    refine ⟨?_, ?_, ?_⟩
    · intro q hq e he ho
      simp only [List.mem_cons, List.not_mem_nil, or_false, not_or] at hq
      rw [fw_tri]
      have he : e ∈ [(u, v), (v, w), (w, u)] := he
      simp only [List.mem_cons, List.not_mem_nil, or_false] at he
      rcases he with k | k | k
      · subst k
        obtain ⟨k1, k2, k3⟩ := open_side hD ho hq.1 hq.2.1
        exact fT_edge hD k1 k2 k3
      · subst k
        obtain ⟨k1, k2, k3⟩ := open_side hD1 ho hq.2.1 hq.2.2
        rw [← fT_rot]; exact fT_edge hD1 k1 k2 k3
      · subst k
        obtain ⟨k1, k2, k3⟩ := open_side hD2 ho hq.2.2 hq.1
        rw [← fT_rot, ← fT_rot]; exact fT_edge hD2 k1 k2 k3
    · have := fT_verts hD
      simp only [List.map_cons, List.map_nil, List.sum_cons, List.sum_nil, fw_tri, List.length_cons, List.length_nil]
      omega
    · intro q hq
      simp only [List.mem_cons, List.not_mem_nil, or_false, not_or] at hq
      show cnt [(u, v), (v, w), (w, u)] q ≤ 1
      rw [cnt_cons, cnt_cons, cnt_cons]
      show _ + (_ + (_ + 0)) ≤ _
      have x1 : onB u v q = true → onB v w q = true → False := fun a b => hq.2.1 (two_sides hD ((On_iff _ _ _).mp a).1 ((On_iff _ _ _).mp b).1)
      have x2 : onB v w q = true → onB w u q = true → False := fun a b => hq.2.2 (two_sides hD1 ((On_iff _ _ _).mp a).1 ((On_iff _ _ _).mp b).1)
      have x3 : onB w u q = true → onB u v q = true → False := fun a b => hq.1 (two_sides hD2 ((On_iff _ _ _).mp a).1 ((On_iff _ _ _).mp b).1)
      simp only
      cases c1 : onB u v q <;> cases c2 : onB v w q <;> cases c3 : onB w u q <;> simp [c1, c2, c3] at x1 x2 x3 ⊢
  · intro a y c M hM hc he ih
    have hS := hc.simp
    have hS' := hS.cut he hM
    have hD := he.1
    have hD1 : 0 < turn y c a := by rw [turn_rot]; exact hD
    have h0 := hc.zero he hM
    have hy := InT_y hD
    have hnd := hS.nd
    have noR : ∀ q, InT a y c q → 0 < turn c a q → ∀ e ∈ path c (M ++ [a]), ¬ On e.1 e.2 q := fun q hq hq' e hE =>
      noT_on hD (ear_off hS he hE) (hS.ne (List.mem_cons_of_mem _ (List.mem_cons_of_mem _ hE))) hq hq'
    have noAC : ∀ q, 0 < turn c a q → ¬ On a c q := by
      intro q hq ho
      have := ho.comm.1; omega
    have off' : ∀ q, InT a y c q → 0 < turn c a q → Offl (a :: c :: M) q := by
      intro q hq hq' e hE
      rw [E_cut] at hE
      rcases List.mem_cons.mp hE with k | k
      · subst k; exact noAC q hq'
      · exact noR q hq hq' e k
    have f0 : ∀ q, InT a y c q → 0 < turn c a q → fw (a :: c :: M) q = 0 := by
      intro q hq hq'
      rw [fw_off (off' q hq hq'), ear_const hS he hq hq' hy.1 hy.2, h0]; rfl
    have hl' : ∀ p, p ∉ a :: y :: c :: M → p ∉ a :: c :: M := by
      intro p hp k
      apply hp
      rcases List.mem_cons.mp k with k | k
      · rw [k]; exact List.mem_cons_self
      · exact List.mem_cons_of_mem _ (List.mem_cons_of_mem _ k)
    -- a point of the rest is not in the triangle
    have restOut : ∀ q, q ∉ a :: y :: c :: M → ∀ e ∈ path c (M ++ [a]), On e.1 e.2 q → ¬ InT a y c q := by
      intro q hq e hE ho hi
      by_cases hY : 0 < turn c a q
      · exact noR q hi hY e hE ho
      · have hY0 : turn c a q = 0 := by have := hi.2.2; omega
        have hac : On a c q := (hi.rot.rot.on (by rw [turn_rot, turn_rot]; exact hD) hY0).comm
        have := ih.cnt q (hl' q hq)
        rw [E_cut, cnt_cons] at this
        rw [if_pos ((On_iff a c q).mpr hac)] at this
        have := cnt_pos hE ho
        omega
    refine ⟨?_, ?_, ?_⟩
    · intro q hq e hE ho
      have hq0 := hq
      simp only [List.mem_cons, not_or] at hq
      obtain ⟨q1, q2, q3, q4⟩ := hq
      rw [fw_ear]
      rw [E_ear] at hE
      rcases List.mem_cons.mp hE with k | hE
      · subst k
        obtain ⟨k1, k2, k3⟩ := open_side hD ho q1 q2
        rw [f0 q ⟨by omega, by omega, by omega⟩ k3, fT_edge hD k1 k2 k3]; rfl
      · rcases List.mem_cons.mp hE with k | hE
        · subst k
          obtain ⟨k1, k2, k3⟩ := open_side hD1 ho q2 q3
          rw [f0 q ⟨by omega, by omega, by omega⟩ k2, ← fT_rot, fT_edge hD1 k1 k2 k3]; rfl
        · rw [fT_out hD (restOut q hq0 e hE ho), ih.one q (hl' q hq0) e (by rw [E_cut]; exact List.mem_cons_of_mem _ hE) ho]; rfl
    · have s1 : ∀ p ∈ M, fw (a :: y :: c :: M) p = fw (a :: c :: M) p := by
        intro p hp
        rw [fw_ear, fT_out hD, Int.add_zero]
        intro hi
        simp only [List.nodup_cons, List.mem_cons, not_or] at hnd
        obtain ⟨⟨n1, n2, n3⟩, ⟨n4, n5⟩, n6, n7⟩ := hnd
        rcases he.2 p (by simp [hp]) hi with k | k | k
        · exact n3 (by rw [← k]; exact hp)
        · exact n5 (by rw [← k]; exact hp)
        · exact n6 (by rw [← k]; exact hp)
      have s2 : (M.map fun p => fw (a :: y :: c :: M) p).sum = (M.map fun p => fw (a :: c :: M) p).sum := sum_congr s1
      have s3 := ih.sum
      have s4 := fT_verts hD
      have s5 := f0 y hy.1 hy.2
      rw [List.map_cons, List.map_cons, List.map_cons, List.sum_cons, List.sum_cons, List.sum_cons, s2, fw_ear, fw_ear, fw_ear, s5]
      rw [List.map_cons, List.map_cons, List.sum_cons, List.sum_cons] at s3
      simp only [List.length_cons] at s3 ⊢
      omega
    · intro q hq
      have hq0 := hq
      simp only [List.mem_cons, not_or] at hq
      obtain ⟨q1, q2, q3, q4⟩ := hq
      rw [E_ear, cnt_cons, cnt_cons]
      have c1 := ih.cnt q (hl' q hq0)
      rw [E_cut, cnt_cons] at c1
      by_cases k1 : On a y q
      · obtain ⟨j1, j2, j3⟩ := open_side hD k1 q1 q2
        have n2 : ¬ onB y c q = true := fun k => by
          have := ((On_iff y c q).mp k).1; omega
        rw [cnt_zero (noR q ⟨by omega, by omega, by omega⟩ j3)]
        simp only
        rw [if_neg n2]
        split <;> omega
      · by_cases k2 : On y c q
        · obtain ⟨j1, j2, j3⟩ := open_side hD1 k2 q2 q3
          have n1 : ¬ onB a y q = true := fun k => k1 ((On_iff a y q).mp k)
          rw [cnt_zero (noR q ⟨by omega, by omega, by omega⟩ j2)]
          simp only
          rw [if_neg n1]
          split <;> omega
        · have n1 : ¬ onB a y q = true := fun k => k1 ((On_iff a y q).mp k)
          have n2 : ¬ onB y c q = true := fun k => k2 ((On_iff y c q).mp k)
          simp only
          rw [if_neg n1, if_neg n2]
          split at c1 <;> omega
end GE

set_option linter.all false
set_option maxHeartbeats 1000000
/-! GO: sums over a box; the area by the windings. -/
namespace GE
open PG (Pt turn onB crossT)
def S (n : Nat) (f : Nat → Int) : Int := ((List.range n).map f).sum
theorem S_zero (f : Nat → Int) : S 0 f = 0 := rfl
theorem S_succ (n : Nat) (f : Nat → Int) : S (n + 1) f = S n f + f n := by
  unfold S; rw [List.range_succ, List.map_append, List.sum_append]; simp
theorem S_congr {n : Nat} {f g : Nat → Int} (h : ∀ i, i < n → f i = g i) : S n f = S n g :=
  sum_congr fun i hi => h i (List.mem_range.mp hi)
theorem S_add (n : Nat) (f g : Nat → Int) : S n (fun i => f i + g i) = S n f + S n g := sum_add f g _
theorem S_const (n : Nat) (K : Int) : S n (fun _ => K) = n * K := by
  induction n with
  | zero => simp [S]
  | succ n ih => rw [S_succ, ih, Int.natCast_add, Int.add_mul]; simp
theorem S_append (m n : Nat) (f : Nat → Int) : S (m + n) f = S m f + S n (fun i => f (m + i)) := by
  induction n with
  | zero => rw [S_zero, Int.add_zero]; rfl
  | succ n ih => rw [← Nat.add_assoc, S_succ, S_succ, ih]; omega
theorem S_front (n : Nat) (f : Nat → Int) : S (n + 1) f = f 0 + S n (fun i => f (i + 1)) := by
  rw [Nat.add_comm, S_append, S_succ, S_zero, Int.zero_add]
  congr 1
  exact S_congr fun i _ => by rw [Nat.add_comm]
theorem S_rev (n : Nat) : ∀ f : Nat → Int, S n f = S n (fun i => f (n - 1 - i)) := by
  induction n with
  | zero => intro f; rfl
  | succ n ih =>
    intro f
    rw [S_front, ih, S_succ]
    have e : f (n + 1 - 1 - n) = f 0 := by congr 1; omega
    rw [e, Int.add_comm]
    congr 1
    exact S_congr fun i hi => by congr 1; omega
theorem S_null {n : Nat} {f : Nat → Int} (h : ∀ i, i < n → f i = 0) : S n f = 0 := by
  rw [S_congr h, S_const]; omega
theorem S_if {H A h : Nat} (hA : A + h ≤ H) (f : Nat → Int) (P : Nat → Prop) [DecidablePred P] (hP : ∀ j, j < H → (P j ↔ (A ≤ j ∧ j < A + h))) :
    S H (fun j => if P j then f j else 0) = S h (fun k => f (A + k)) := by
  obtain ⟨r, e⟩ : ∃ r, H = A + (h + r) := ⟨H - (A + h), by omega⟩
  subst e
  rw [S_append, S_append, S_null (n := A), S_null (n := r), Int.zero_add, Int.add_zero]
  · exact S_congr fun i hi => if_pos ((hP _ (by omega)).mpr (by omega))
  · intro i hi; exact if_neg fun k => by have := (hP _ (by omega)).mp k; omega
  · intro i hi; exact if_neg fun k => by have := (hP _ (by omega)).mp k; omega
theorem S_comm (W H : Nat) (f : Nat → Nat → Int) : S W (fun i => S H (fun j => f i j)) = S H (fun j => S W (fun i => f i j)) := by
  induction W with
  | zero => rw [S_zero]; exact (S_null fun j _ => rfl).symm
  | succ W ih =>
    rw [S_succ, ih, ← S_add]
    exact S_congr fun j _ => (S_succ W _).symm
theorem S_count (t : Int) (ht : 0 ≤ t) (W : Nat) : S W (fun i => if (i : Int) < t then 1 else 0) = if t ≤ W then t else W := by
  induction W with
  | zero => rw [S_zero]; split <;> omega
  | succ W ih => rw [S_succ, ih]; split <;> split <;> split <;> omega
/-- over a box, column by column -/
def Bx (X Y : Int) (W H : Nat) (g : Pt → Int) : Int := S W (fun i => S H (fun j => g (X + i, Y + j)))
theorem Bx_comm (X Y : Int) (W H : Nat) (g : Pt → Int) : Bx X Y W H g = S H (fun j => S W (fun i => g (X + i, Y + j))) := S_comm W H _
theorem Bx_congr {X Y : Int} {W H : Nat} {f g : Pt → Int} (h : ∀ q : Pt, X ≤ q.1 → q.1 < X + W → Y ≤ q.2 → q.2 < Y + H → f q = g q) : Bx X Y W H f = Bx X Y W H g :=
  S_congr fun i hi => S_congr fun j hj => h _ (by simp only; omega) (by simp only; omega) (by simp only; omega) (by simp only; omega)
theorem Bx_add (X Y : Int) (W H : Nat) (f g : Pt → Int) : Bx X Y W H (fun q => f q + g q) = Bx X Y W H f + Bx X Y W H g := by
  unfold Bx
  rw [← S_add]
  exact S_congr fun i _ => S_add H _ _
theorem Bx_zero (X Y : Int) (W H : Nat) : Bx X Y W H (fun _ => 0) = 0 := S_null fun _ _ => S_null fun _ _ => rfl
theorem Bx_sum {α : Type} (X Y : Int) (W H : Nat) (f : α → Pt → Int) : ∀ T : List α, Bx X Y W H (fun q => (T.map fun e => f e q).sum) = (T.map fun e => Bx X Y W H (f e)).sum
  | [] => Bx_zero X Y W H
  | e :: T => by
    rw [List.map_cons, List.sum_cons, ← Bx_sum X Y W H f T, ← Bx_add]
    exact Bx_congr fun q _ _ _ _ => by rw [List.map_cons, List.sum_cons]
theorem Bx_neg (X Y : Int) (W H : Nat) (f : Pt → Int) : Bx X Y W H (fun q => - f q) = - Bx X Y W H f := by
  have := Bx_add X Y W H f (fun q => - f q)
  have e : Bx X Y W H (fun q => f q + - f q) = 0 := by
    rw [← Bx_zero X Y W H]; exact Bx_congr fun q _ _ _ _ => by omega
  omega
/-! one side -/
theorem turn_row (a b : Pt) (x y : Int) : turn a b (x, y) = (b.2 - a.2) * (a.1 - x) + (y - a.2) * (b.1 - a.1) := by unfold turn; grind
theorem ceil_iff {h c z : Int} (hh : 0 < h) : 0 < h * (-z) + c ↔ z < - ((-c) / h) := by
  have := Int.le_ediv_iff_mul_le (a := -z) (b := -c) hh
  have e : -z * h = h * (-z) := Int.mul_comm _ _
  omega
theorem floor_iff {h c z : Int} (hh : 0 < h) : 0 ≤ h * (-z) + c ↔ z < c / h + 1 := by
  have := Int.le_ediv_iff_mul_le (a := z) (b := c) hh
  have e : h * (-z) = - (z * h) := by rw [Int.mul_neg, Int.mul_comm]
  omega
theorem row_count {X t : Int} {W : Nat} (h1 : X ≤ t) (h2 : t ≤ X + W) (P : Nat → Prop) [DecidablePred P] (hP : ∀ i : Nat, i < W → (P i ↔ X + i < t)) :
    S W (fun i => if P i then (1 : Int) else 0) = t - X := by
  have e : S W (fun i => if P i then (1 : Int) else 0) = S W (fun i => if (i : Int) < t - X then 1 else 0) := by
    apply S_congr
    intro i hi
    have := hP i hi
    by_cases h : P i
    · rw [if_pos h, if_pos (by have := this.mp h; omega)]
    · rw [if_neg h, if_neg (fun k => h (this.mpr (by omega)))]
  rw [e, S_count _ (by omega), if_pos (by omega)]
theorem comb_pos {u v x y : Int} (hu : 0 ≤ u) (hv : 0 ≤ v) (hs : 0 < u + v) (hx : 0 < x) (hy : 0 < y) : 0 < u * x + v * y := by
  have h1 := Int.mul_nonneg hu (show 0 ≤ x - 1 by omega)
  have h2 := Int.mul_nonneg hv (show 0 ≤ y - 1 by omega)
  rw [Int.mul_sub] at h1 h2
  omega
structure Box (X Y : Int) (W H : Nat) (p : Pt) : Prop where
  x0 : X ≤ p.1
  x1 : p.1 < X + W
  y0 : Y ≤ p.2
  y1 : p.2 < Y + H
theorem row_cr {a b : Pt} {X Y : Int} {W H : Nat} (ha : Box X Y W H a) (hb : Box X Y W H b) (hab : a.2 < b.2) (y : Int) :
    S W (fun i => cr a b (X + i, y)) = if a.2 ≤ y ∧ y < b.2 then a.1 + - ((-((y - a.2) * (b.1 - a.1))) / (b.2 - a.2)) - X else 0 := by
  have hh : 0 < b.2 - a.2 := by omega
  obtain ⟨a0, a1, _, _⟩ := ha
  obtain ⟨b0, b1, _, _⟩ := hb
  by_cases hy : a.2 ≤ y ∧ y < b.2
  · rw [if_pos hy]
    have key : ∀ x : Int, 0 < turn a b (x, y) ↔ x < a.1 + - ((-((y - a.2) * (b.1 - a.1))) / (b.2 - a.2)) := by
      intro x
      rw [turn_row]
      have := ceil_iff (c := (y - a.2) * (b.1 - a.1)) (z := x - a.1) hh
      have e : -(x - a.1) = a.1 - x := by omega
      rw [e] at this
      omega
    have conv : ∀ x : Int, turn a b (x, y) = (b.2 - y) * (a.1 - x) + (y - a.2) * (b.1 - x) := by intro x; unfold turn; grind
    have lo := (key (X - 1)).mp (by rw [conv]; exact comb_pos (by omega) (by omega) (by omega) (by omega) (by omega))
    have hi : ¬ (X + W < a.1 + - ((-((y - a.2) * (b.1 - a.1))) / (b.2 - a.2))) := by
      intro k
      have k := (key _).mpr k
      rw [conv] at k
      have := comb_pos (u := b.2 - y) (v := y - a.2) (x := X + W - a.1) (y := X + W - b.1) (by omega) (by omega) (by omega) (by omega) (by omega)
      have e1 : (b.2 - y) * (a.1 - (X + W)) = - ((b.2 - y) * (X + W - a.1)) := by rw [← Int.mul_neg]; congr 1; omega
      have e2 : (y - a.2) * (b.1 - (X + W)) = - ((y - a.2) * (X + W - b.1)) := by rw [← Int.mul_neg]; congr 1; omega
      omega
    refine (S_congr fun i _ => cr_up (by omega) _).trans ?_
    refine row_count (by omega) (by omega) _ ?_
    intro i _
    have := key (X + i)
    simp only
    omega
  · rw [if_neg hy]
    refine S_null fun i _ => ?_
    rw [cr_up (by omega), if_neg (fun k => hy ⟨k.1, k.2.1⟩)]
theorem cm_up {a b : Pt} (h : a.2 ≤ b.2) (q : Pt) : cm a b q = if a.2 < q.2 ∧ q.2 ≤ b.2 ∧ 0 ≤ turn a b q then 1 else 0 := by
  unfold cm
  split
  · rfl
  · rw [if_neg (by omega)]
theorem row_cm {a b : Pt} {X Y : Int} {W H : Nat} (ha : Box X Y W H a) (hb : Box X Y W H b) (hab : a.2 < b.2) (y : Int) :
    S W (fun i => cm a b (X + i, y)) = if a.2 < y ∧ y ≤ b.2 then a.1 + (((y - a.2) * (b.1 - a.1)) / (b.2 - a.2) + 1) - X else 0 := by
  have hh : 0 < b.2 - a.2 := by omega
  obtain ⟨a0, a1, _, _⟩ := ha
  obtain ⟨b0, b1, _, _⟩ := hb
  by_cases hy : a.2 < y ∧ y ≤ b.2
  · rw [if_pos hy]
    have key : ∀ x : Int, 0 ≤ turn a b (x, y) ↔ x < a.1 + (((y - a.2) * (b.1 - a.1)) / (b.2 - a.2) + 1) := by
      intro x
      rw [turn_row]
      have := floor_iff (c := (y - a.2) * (b.1 - a.1)) (z := x - a.1) hh
      have e : -(x - a.1) = a.1 - x := by omega
      rw [e] at this
      omega
    have conv : ∀ x : Int, turn a b (x, y) = (b.2 - y) * (a.1 - x) + (y - a.2) * (b.1 - x) := by intro x; unfold turn; grind
    have lo := (key (X - 1)).mp (by rw [conv]; exact Int.le_of_lt (comb_pos (by omega) (by omega) (by omega) (by omega) (by omega)))
    have hi : ¬ (X + W < a.1 + (((y - a.2) * (b.1 - a.1)) / (b.2 - a.2) + 1)) := by
      intro k
      have k := (key _).mpr k
      rw [conv] at k
      have := comb_pos (u := b.2 - y) (v := y - a.2) (x := X + W - a.1) (y := X + W - b.1) (by omega) (by omega) (by omega) (by omega) (by omega)
      have e1 : (b.2 - y) * (a.1 - (X + W)) = - ((b.2 - y) * (X + W - a.1)) := by rw [← Int.mul_neg]; congr 1; omega
      have e2 : (y - a.2) * (b.1 - (X + W)) = - ((y - a.2) * (X + W - b.1)) := by rw [← Int.mul_neg]; congr 1; omega
      omega
    refine (S_congr fun i _ => cm_up (by omega) _).trans ?_
    refine row_count (by omega) (by omega) _ ?_
    intro i _
    have := key (X + i)
    simp only
    omega
  · rw [if_neg hy]
    refine S_null fun i _ => ?_
    rw [cm_up (by omega), if_neg (fun k => hy ⟨k.1, k.2.1⟩)]
theorem side_up {a b : Pt} {X Y : Int} {W H : Nat} (ha : Box X Y W H a) (hb : Box X Y W H b) (hab : a.2 < b.2) :
    Bx X Y W H (cf a b) = (b.2 - a.2) * (a.1 + b.1 + 1 - 2 * X) := by
  obtain ⟨h, hh⟩ : ∃ h : Nat, b.2 - a.2 = h := ⟨(b.2 - a.2).toNat, by omega⟩
  obtain ⟨A, hA⟩ : ∃ A : Nat, a.2 - Y = A := ⟨(a.2 - Y).toNat, by have := ha.y0; omega⟩
  have hbH := hb.y1
  have e1 : Bx X Y W H (cf a b) = Bx X Y W H (cr a b) + Bx X Y W H (cm a b) := Bx_add X Y W H _ _
  have e2 : Bx X Y W H (cr a b) = S h (fun k => a.1 + - ((-((k : Int) * (b.1 - a.1))) / (b.2 - a.2)) - X) := by
    rw [Bx_comm]
    refine (S_congr fun j _ => row_cr ha hb hab (Y + j)).trans ?_
    refine (S_if (A := A) (h := h) (by omega) (fun j => a.1 + - ((-((Y + j - a.2) * (b.1 - a.1))) / (b.2 - a.2)) - X) _ (fun j _ => by omega)).trans ?_
    refine S_congr fun k _ => ?_
    have : Y + ((A + k : Nat) : Int) - a.2 = k := by omega
    rw [this]
  have e3 : Bx X Y W H (cm a b) = S h (fun k => a.1 + ((((b.2 - a.2) - (k : Int)) * (b.1 - a.1)) / (b.2 - a.2) + 1) - X) := by
    rw [Bx_comm]
    refine (S_congr fun j _ => row_cm ha hb hab (Y + j)).trans ?_
    refine (S_if (A := A + 1) (h := h) (by omega) (fun j => a.1 + (((Y + j - a.2) * (b.1 - a.1)) / (b.2 - a.2) + 1) - X) _ (fun j _ => by omega)).trans ?_
    rw [S_rev]
    refine S_congr fun k hk => ?_
    have : Y + ((A + 1 + (h - 1 - k) : Nat) : Int) - a.2 = (b.2 - a.2) - k := by omega
    rw [this]
  rw [e1, e2, e3, ← S_add]
  have e4 : ∀ k : Nat, k < h → (a.1 + - ((-((k : Int) * (b.1 - a.1))) / (b.2 - a.2)) - X) + (a.1 + ((((b.2 - a.2) - (k : Int)) * (b.1 - a.1)) / (b.2 - a.2) + 1) - X) = a.1 + b.1 + 1 - 2 * X := by
    intro k _
    have : ((b.2 - a.2) - (k : Int)) * (b.1 - a.1) = -((k : Int) * (b.1 - a.1)) + (b.1 - a.1) * (b.2 - a.2) := by grind
    rw [this, Int.add_mul_ediv_right _ _ (by omega)]
    omega
  rw [S_congr e4, S_const, ← hh]
theorem side_box {a b : Pt} {X Y : Int} {W H : Nat} (ha : Box X Y W H a) (hb : Box X Y W H b) :
    Bx X Y W H (cf a b) = (b.2 - a.2) * (a.1 + b.1 + 1 - 2 * X) := by
  rcases Int.lt_trichotomy a.2 b.2 with h | h | h
  · exact side_up ha hb h
  · rw [h, Int.sub_self, Int.zero_mul]
    rw [← Bx_zero X Y W H]
    refine Bx_congr fun q _ _ _ _ => ?_
    unfold cf cr cm
    rw [if_neg (by omega), if_neg (by omega), if_neg (by omega), if_neg (by omega)]; rfl
  · have k := side_up hb ha h
    have e : Bx X Y W H (cf a b) = - Bx X Y W H (cf b a) := by
      rw [← Bx_neg]
      exact Bx_congr fun q _ _ _ _ => cf_anti b a q
    rw [e, k, ← Int.neg_mul]
    congr 1 <;> omega
/-- twice the area is the sum of both windings -/
theorem area_box {l : List Pt} {X Y : Int} {W H : Nat} (hb : ∀ p ∈ l, Box X Y W H p) : Bx X Y W H (fw l) = ar l := by
  have e : Bx X Y W H (fw l) = ((E l).map fun e => Bx X Y W H (cf e.1 e.2)).sum := Bx_sum X Y W H (fun (e : Ed) q => cf e.1 e.2 q) (E l)
  have t := teleE (fun p : Pt => p.1 * p.2 + (1 - 2 * X) * p.2) l
  have e2 : ((E l).map fun e => Bx X Y W H (cf e.1 e.2)).sum = ((E l).map fun e => 1 * crossT e.1 e.2 + ((fun p : Pt => p.1 * p.2 + (1 - 2 * X) * p.2) e.2 - (fun p : Pt => p.1 * p.2 + (1 - 2 * X) * p.2) e.1)).sum := by
    apply sum_congr
    intro e he
    rw [side_box (hb _ (E_mem he).1) (hb _ (E_mem he).2)]
    unfold crossT
    simp only
    grind
  rw [e, e2, sum_lin 1 (fun e : Ed => crossT e.1 e.2)]
  unfold ar
  have t' : ((E l).map fun e => (fun p : Pt => p.1 * p.2 + (1 - 2 * X) * p.2) e.2 - (fun p : Pt => p.1 * p.2 + (1 - 2 * X) * p.2) e.1).sum = 0 := t
  rw [Int.one_mul]
  exact (congrArg (fun x => ((E l).map fun e => crossT e.1 e.2).sum + x) t').trans (Int.add_zero _)
end GE

set_option linter.all false
set_option maxHeartbeats 1000000
/-! GP: the stakes of a side; the law of area and stakes. -/
namespace GE
open PG (Pt turn onB crossT)
theorem gcd_next (a b k : Int) : Int.gcd b (a - b * k) = Int.gcd a b := by
  have : a - b * k = a - k * b := by rw [Int.mul_comm]
  rw [this, Int.gcd_sub_mul_right_right, Int.gcd_comm]
theorem bezout : ∀ (n : Nat) (a b : Int), b.natAbs ≤ n → ∃ u v : Int, u * a + v * b = (Int.gcd a b : Int)
  | n, a, b, h => by
    by_cases hb : b = 0
    · subst hb
      rw [Int.gcd_zero_right]
      by_cases ha : 0 ≤ a
      · exact ⟨1, 0, by omega⟩
      · exact ⟨-1, 0, by omega⟩
    · match n, h with
      | 0, h => omega
      | n + 1, h =>
        have h1 := Int.emod_nonneg a hb
        have h2 := Int.emod_lt a hb
        obtain ⟨u, v, e⟩ := bezout n b (a % b) (by omega)
        rw [Int.emod_def] at e
        rw [gcd_next] at e
        exact ⟨v, u - v * (a / b), by rw [← e]; grind⟩
def half (a b q : Pt) : Int := if onB a b q = true ∧ q ≠ b then 1 else 0
theorem single_sum {α : Type} [DecidableEq α] (g : α → Int) (q : α) : ∀ l : List α, l.Nodup → (l.map fun p => if q = p then g p else 0).sum = if q ∈ l then g q else 0
  | [], _ => by simp
  | a :: l, h => by
    rw [List.nodup_cons] at h
    rw [List.map_cons, List.sum_cons, single_sum g q l h.2]
    by_cases e : q = a
    · subst e
      rw [if_pos rfl, if_neg h.1, if_pos List.mem_cons_self]; omega
    · rw [if_neg e]
      by_cases hm : q ∈ l
      · rw [if_pos hm, if_pos (List.mem_cons_of_mem _ hm)]; omega
      · rw [if_neg hm, if_neg (fun k => by rcases List.mem_cons.mp k with k | k; exact e k; exact hm k)]; rfl
theorem Bx_single {X Y : Int} {W H : Nat} {c : Pt} (hc : Box X Y W H c) (K : Int) : Bx X Y W H (fun q => if q = c then K else 0) = K := by
  obtain ⟨x0, x1, y0, y1⟩ := hc
  obtain ⟨i, hi⟩ : ∃ i : Nat, c.1 - X = i := ⟨(c.1 - X).toNat, by omega⟩
  obtain ⟨j, hj⟩ : ∃ j : Nat, c.2 - Y = j := ⟨(c.2 - Y).toNat, by omega⟩
  have e : ∀ (i' j' : Nat), (((X + (i' : Int), Y + (j' : Int)) : Pt) = c) ↔ (i' = i ∧ j' = j) := by
    intro i' j'
    constructor
    · intro h
      have h1 := congrArg Prod.fst h
      have h2 := congrArg Prod.snd h
      simp only at h1 h2
      omega
    · rintro ⟨h1, h2⟩
      exact Prod.ext (by simp only; omega) (by simp only; omega)
  unfold Bx
  have row : ∀ i', i' < W → S H (fun j' => if (X + (i' : Int), Y + (j' : Int)) = c then K else 0) = if i' = i then K else 0 := by
    intro i' _
    by_cases hii : i' = i
    · rw [if_pos hii]
      refine (S_if (A := j) (h := 1) (by omega) (fun _ => K) _ (fun j' _ => (e i' j').trans (by omega))).trans ?_
      rw [S_succ, S_zero]; omega
    · rw [if_neg hii]
      exact S_null fun j' _ => if_neg fun k => hii ((e i' j').mp k).1
  rw [S_congr row]
  refine (S_if (A := i) (h := 1) (by omega) (fun _ => K) _ (fun i' _ => by omega)).trans ?_
  rw [S_succ, S_zero]; omega
theorem Bx_list {X Y : Int} {W H : Nat} {l : List Pt} (hn : l.Nodup) (hb : ∀ p ∈ l, Box X Y W H p) (g : Pt → Int) :
    Bx X Y W H (fun q => if q ∈ l then g q else 0) = (l.map g).sum := by
  have e : Bx X Y W H (fun q => if q ∈ l then g q else 0) = Bx X Y W H (fun q => (l.map fun p => if q = p then g p else 0).sum) :=
    Bx_congr fun q _ _ _ _ => by
      have := single_sum g q l hn
      by_cases hm : q ∈ l
      · rw [if_pos hm] at this ⊢; exact this.symm
      · rw [if_neg hm] at this ⊢; exact this.symm
  rw [e, Bx_sum X Y W H (fun (p : Pt) q => if q = p then g p else 0) l]
  exact sum_congr fun p hp => Bx_single (hb p hp) (g p)
/-- the stakes of a side, without its end -/
theorem half_box {a b : Pt} {X Y : Int} {W H : Nat} (hab : a ≠ b) (ha : Box X Y W H a) (hb : Box X Y W H b) : Bx X Y W H (half a b) = gc a b := by
  obtain ⟨u, v, huv⟩ := bezout _ (b.1 - a.1) (b.2 - a.2) (Nat.le_refl _)
  have hg := gc_pos hab
  have g1 := Int.gcd_dvd_left (b.1 - a.1) (b.2 - a.2)
  have g2 := Int.gcd_dvd_right (b.1 - a.1) (b.2 - a.2)
  unfold gc at *
  generalize Int.gcd (b.1 - a.1) (b.2 - a.2) = g at *
  obtain ⟨p, hp⟩ := g1
  obtain ⟨r, hr⟩ := g2
  have hG : (0 : Int) < g := by omega
  have h1 : u * p + v * r = 1 := by
    have : (g : Int) * (u * p + v * r) = g * 1 := by rw [hp, hr] at huv; rw [Int.mul_one]; grind
    exact Int.eq_of_mul_eq_mul_left (by omega) this
  have hN : 0 < p * p + r * r := by
    have e1 := sq_nn p; have e2 := sq_nn r
    by_cases hp0 : p = 0
    · by_cases hr0 : r = 0
      · subst hp0 hr0; simp at h1
      · have := sq_pos hr0; omega
    · have := sq_pos hp0; omega
  have hinj : ∀ k m : Int, ((a.1 + k * p, a.2 + k * r) : Pt) = (a.1 + m * p, a.2 + m * r) → k = m := by
    intro k m e
    have e1 : a.1 + k * p = a.1 + m * p := congrArg Prod.fst e
    have e2 : a.2 + k * r = a.2 + m * r := congrArg Prod.snd e
    have : k * (u * p + v * r) = m * (u * p + v * r) := by
      have e3 : k * p = m * p := by omega
      have e4 : k * r = m * r := by omega
      grind
    rw [h1] at this; omega
  have L := (List.range g).map fun k : Nat => ((a.1 + k * p, a.2 + k * r) : Pt)
  have hnd : ((List.range g).map fun k : Nat => ((a.1 + k * p, a.2 + k * r) : Pt)).Nodup := by
    refine List.Pairwise.map _ ?_ List.nodup_range
    intro k m hkm e
    have := hinj _ _ e
    omega
  have eb : b = (a.1 + g * p, a.2 + g * r) := Prod.ext (by simp only; omega) (by simp only; omega)
  have hmem : ∀ q : Pt, (onB a b q = true ∧ q ≠ b) ↔ q ∈ (List.range g).map fun k : Nat => ((a.1 + k * p, a.2 + k * r) : Pt) := by
    intro q
    constructor
    · rintro ⟨ho, hne⟩
      obtain ⟨t0, d0⟩ := (On_iff _ _ _).mp ho
      have t1 : p * (q.2 - a.2) = r * (q.1 - a.1) := by
        have : (g : Int) * (p * (q.2 - a.2) - r * (q.1 - a.1)) = 0 := by
          unfold turn at t0; rw [hp, hr] at t0; grind
        have := sgn_z hG this
        omega
      have k1 : q.1 = a.1 + (u * (q.1 - a.1) + v * (q.2 - a.2)) * p := by
        have : (u * (q.1 - a.1) + v * (q.2 - a.2)) * p = (q.1 - a.1) * (u * p + v * r) := by grind
        rw [this, h1]; omega
      have k2 : q.2 = a.2 + (u * (q.1 - a.1) + v * (q.2 - a.2)) * r := by
        have : (u * (q.1 - a.1) + v * (q.2 - a.2)) * r = (q.2 - a.2) * (u * p + v * r) := by grind
        rw [this, h1]; omega
      generalize u * (q.1 - a.1) + v * (q.2 - a.2) = k at k1 k2
      have d1 : dt a b q = k * (k - g) * (p * p + r * r) := by
        unfold dt; rw [eb, k1, k2]; simp only; grind
      have d2 : (p * p + r * r) * (k * (k - g)) ≤ 0 := by rw [Int.mul_comm]; omega
      have d3 := sgn_np hN d2
      have kg : k ≠ g := by
        intro e; apply hne; rw [eb, ← e]; exact Prod.ext k1 k2
      have k0 : 0 ≤ k ∧ k < g := by
        rcases Int.lt_or_le k 0 with h | h
        · have := nn h (show k - g < 0 by omega); omega
        · rcases Int.lt_or_le k g with h' | h'
          · exact ⟨h, h'⟩
          · have := Int.mul_pos (show 0 < k by omega) (show 0 < k - g by omega); omega
      refine List.mem_map.mpr ⟨k.toNat, List.mem_range.mpr (by omega), ?_⟩
      have : ((k.toNat : Nat) : Int) = k := by omega
      rw [this]
      exact Prod.ext k1.symm k2.symm
    · intro h
      obtain ⟨k, hk, e⟩ := List.mem_map.mp h
      have hk := List.mem_range.mp hk
      subst e
      refine ⟨(On_iff _ _ _).mpr (On_of_wt (α := (g : Int) - k) (β := k) (by omega) (by omega) (by omega) ?_ ?_), ?_⟩
      · rw [eb]; simp only; grind
      · rw [eb]; simp only; grind
      · intro e
        rw [eb] at e
        have := hinj k g e
        omega
  have hbox : ∀ q ∈ (List.range g).map fun k : Nat => ((a.1 + k * p, a.2 + k * r) : Pt), Box X Y W H q := by
    intro q hq
    have ho := ((On_iff _ _ _).mp ((hmem q).mpr hq).1).box
    obtain ⟨a1, a2, a3, a4⟩ := ha
    obtain ⟨b1, b2, b3, b4⟩ := hb
    exact ⟨by omega, by omega, by omega, by omega⟩
  have e : Bx X Y W H (half a b) = Bx X Y W H (fun q => if q ∈ (List.range g).map fun k : Nat => ((a.1 + k * p, a.2 + k * r) : Pt) then 1 else 0) := by
    refine Bx_congr fun q _ _ _ _ => ?_
    unfold half
    by_cases hq : onB a b q = true ∧ q ≠ b
    · rw [if_pos hq, if_pos ((hmem q).mp hq)]
    · rw [if_neg hq, if_neg (fun k => hq ((hmem q).mpr k))]
  rw [e, Bx_list hnd hbox (fun _ => 1), List.map_map]
  have : ∀ n : Nat, ((List.range n).map ((fun _ : Pt => (1 : Int)) ∘ fun k : Nat => ((a.1 + k * p, a.2 + k * r) : Pt))).sum = n := by
    intro n
    have := S_const n 1
    unfold S at this
    rw [Int.mul_one] at this
    exact this
  exact this g
/-- inside -/
def inn (l : List Pt) (q : Pt) : Int := if cnt (E l) q = 0 ∧ wi l q = 1 then 1 else 0
def onl (l : List Pt) (q : Pt) : Int := ((E l).map fun e => half e.1 e.2 q).sum
theorem cnt_offl {l : List Pt} {q : Pt} (h : cnt (E l) q = 0) : Offl l q := by
  intro e he ho
  have := cnt_pos he ho; omega
theorem point_law {l : List Pt} (h : Ccw l) (q : Pt) : fw l q = 2 * inn l q + onl l q + (if q ∈ l then fw l q - 1 else 0) := by
  have hP := PickI_of h
  by_cases hq : q ∈ l
  · rw [if_pos hq]
    have h1 : onl l q = 1 := by
      unfold onl
      have e : ((E l).map fun e => half e.1 e.2 q).sum = ((E l).map fun e => if q = e.1 then (1 : Int) else 0).sum := by
        apply sum_congr
        intro e he
        unfold half
        by_cases e1 : q = e.1
        · rw [if_pos e1, if_pos ⟨by rw [e1]; exact (On_iff _ _ _).mpr (On_l _ _), by rw [e1]; exact h.simp.ne he⟩]
        · rw [if_neg e1, if_neg]
          rintro ⟨ho, hne⟩
          rcases h.simp.on e he q hq ((On_iff _ _ _).mp ho) with k | k
          · exact e1 k
          · exact hne k
      rw [e]
      have e2 := single_sum (fun _ : Pt => (1 : Int)) q l h.simp.nd
      rw [if_pos hq] at e2
      have e3 : ((E l).map fun e => if q = e.1 then (1 : Int) else 0) = (((E l).map (·.1)).map fun p => if q = p then (1 : Int) else 0) := by rw [List.map_map]; rfl
      rw [e3, E_fst]; exact e2
    have h2 : inn l q = 0 := by
      unfold inn
      rw [if_neg]
      rintro ⟨k, _⟩
      obtain ⟨w, hw⟩ := E_succ hq
      exact cnt_offl k _ hw (On_l _ _)
    omega
  · rw [if_neg hq]
    have h3 : onl l q = cnt (E l) q := by
      unfold onl cnt
      apply sum_congr
      intro e he
      unfold half
      by_cases ho : onB e.1 e.2 q = true
      · rw [if_pos ho, if_pos ⟨ho, fun k => hq (by rw [k]; exact (E_mem he).2)⟩]
      · rw [if_neg ho, if_neg (fun k => ho k.1)]
    by_cases hc : cnt (E l) q = 0
    · have ho := cnt_offl hc
      rw [h3, hc, fw_off ho]
      unfold inn
      rcases h.s01 q ho with k | k
      · rw [k, if_neg (by omega)]; rfl
      · rw [k, if_pos ⟨hc, rfl⟩]; rfl
    · have h4 : inn l q = 0 := by unfold inn; rw [if_neg (fun k => hc k.1)]
      have h5 := hP.cnt q hq
      have h6 := cnt_nn q (E l)
      have h7 : ∃ e ∈ E l, On e.1 e.2 q := by
        apply Classical.byContradiction
        intro hno
        exact hc (cnt_zero fun e he ho => hno ⟨e, he, ho⟩)
      obtain ⟨e, he, ho⟩ := h7
      rw [hP.one q hq e he ho]
      omega
/-- twice the area is twice the stakes within, and those on the fence, less two -/
theorem pick {l : List Pt} (h : Ccw l) {X Y : Int} {W H : Nat} (hb : ∀ p ∈ l, Box X Y W H p) : ar l = 2 * Bx X Y W H (inn l) + fe l - 2 := by
  have hP := PickI_of h
  rw [← area_box hb]
  have e1 : Bx X Y W H (fw l) = Bx X Y W H (fun q => (2 * inn l q + onl l q) + (if q ∈ l then fw l q - 1 else 0)) := Bx_congr fun q _ _ _ _ => point_law h q
  have e2 : Bx X Y W H (fun q => 2 * inn l q + onl l q) = 2 * Bx X Y W H (inn l) + Bx X Y W H (onl l) := by
    rw [Bx_add]
    have : Bx X Y W H (fun q => 2 * inn l q) = Bx X Y W H (inn l) + Bx X Y W H (inn l) := by
      rw [← Bx_add]; exact Bx_congr fun q _ _ _ _ => by omega
    omega
  have e3 : Bx X Y W H (onl l) = fe l := by
    unfold fe
    refine (Bx_sum X Y W H (fun (e : Ed) q => half e.1 e.2 q) (E l)).trans ?_
    exact sum_congr fun e he => half_box (h.simp.ne he) (hb _ (E_mem he).1) (hb _ (E_mem he).2)
  have e4 := Bx_list h.simp.nd hb (fun q => fw l q - 1)
  have e5 : (l.map fun q => fw l q - 1).sum = (l.map fun q => fw l q).sum - l.length := by
    have : ∀ m : List Pt, (m.map fun q => fw l q - 1).sum = (m.map fun q => fw l q).sum - m.length := by
      intro m
      induction m with
      | nil => rfl
      | cons a m ih => rw [List.map_cons, List.map_cons, List.sum_cons, List.sum_cons, ih, List.length_cons]; omega
    exact this l
  have e6 := hP.sum
  rw [e1, Bx_add, e2, e3, e4, e5]
  omega
end GE

set_option linter.all false
set_option maxHeartbeats 1000000
/-! GQ: small plots; moved ones. -/
namespace GE
open PG (Pt turn onB crossT)
theorem Bx_bounds {X Y : Int} {W H : Nat} {g : Pt → Int} (h : ∀ q, 0 ≤ g q ∧ g q ≤ 1) : 0 ≤ Bx X Y W H g ∧ Bx X Y W H g ≤ W * H := by
  have row : ∀ i : Nat, 0 ≤ S H (fun j => g (X + i, Y + j)) ∧ S H (fun j => g (X + i, Y + j)) ≤ H := by
    intro i
    unfold S
    have a := sum_ge (fun j : Nat => g (X + i, Y + j)) 0 (List.range H) (fun j _ => (h _).1)
    have b := sum_le (fun j : Nat => g (X + i, Y + j)) 1 (List.range H) (fun j _ => (h _).2)
    rw [List.length_range] at a b
    omega
  unfold Bx
  have a := sum_ge (fun i : Nat => S H (fun j => g (X + i, Y + j))) 0 (List.range W) (fun i _ => (row i).1)
  have b := sum_le (fun i : Nat => S H (fun j => g (X + i, Y + j))) H (List.range W) (fun i _ => (row i).2)
  rw [List.length_range] at a b
  unfold S at *
  omega
/-- a plot of small numbers -/
theorem plot_small (n w : Int) (hw : 0 < w) : ∃ cx : Int, -(w / 2) - 1 ≤ cx ∧ cx ≤ 0 ∧ ∀ p ∈ PG.plot n w, cx ≤ p.1 ∧ (p.1 ≤ cx + 6 ∨ p.1 < cx + w) ∧ -w ≤ p.2 ∧ p.2 ≤ w := by
  generalize hy : n / 512 % 3 * w / 4 = y
  have hmem : ∀ p ∈ PG.plot n w, ∃ q ∈ PG.base n w, p = (q.1 - y, q.2) := by
    intro p hp
    unfold PG.plot at hp
    have := mem_inOrder.mp hp
    obtain ⟨q, hq, e⟩ := List.mem_map.mp this
    exact ⟨q, hq, by rw [← e, ← hy]⟩
  have hy0 : 0 ≤ y ∧ y ≤ w / 2 := by
    have h3 : n / 512 % 3 = 0 ∨ n / 512 % 3 = 1 ∨ n / 512 % 3 = 2 := by omega
    rcases h3 with k | k | k <;> rw [k] at hy <;> omega
  refine ⟨-y, by omega, by omega, ?_⟩
  unfold PG.base at hmem
  dsimp only at hmem
  split at hmem
  · obtain ⟨s1, s2⟩ := saw_box (n / 2) w hw
    intro p hp
    obtain ⟨q, hq, e⟩ := hmem p hp
    have := s1 q hq
    rw [e]; simp only; omega
  · obtain ⟨s1, s2⟩ := spots_box (n / 2) w (3 + n / 2 % 5).toNat hw
    intro p hp
    obtain ⟨q, hq, e⟩ := hmem p hp
    have := s1 q hq
    rw [e]; simp only; omega
theorem gc_aff {k : Aff} (hk : k.det = 1 ∨ k.det = -1) (a b : Pt) : gc (k.f a) (k.f b) = gc a b := by
  -- each divides the other
  have dv : ∀ (k : Aff) (a b : Pt), ((Int.gcd (b.1 - a.1) (b.2 - a.2) : Nat) : Int) ∣ ((Int.gcd ((k.f b).1 - (k.f a).1) ((k.f b).2 - (k.f a).2) : Nat) : Int) := by
    intro k a b
    have g1 := Int.gcd_dvd_left (b.1 - a.1) (b.2 - a.2)
    have g2 := Int.gcd_dvd_right (b.1 - a.1) (b.2 - a.2)
    generalize ((Int.gcd (b.1 - a.1) (b.2 - a.2) : Nat) : Int) = g at *
    have e1 : (k.f b).1 - (k.f a).1 = k.A * (b.1 - a.1) + k.B * (b.2 - a.2) := by unfold Aff.f; simp only; grind
    have e2 : (k.f b).2 - (k.f a).2 = k.A' * (b.1 - a.1) + k.B' * (b.2 - a.2) := by unfold Aff.f; simp only; grind
    rw [e1, e2]
    exact Int.dvd_coe_gcd (Int.dvd_add (Int.dvd_mul_of_dvd_right g1) (Int.dvd_mul_of_dvd_right g2)) (Int.dvd_add (Int.dvd_mul_of_dvd_right g1) (Int.dvd_mul_of_dvd_right g2))
  have h1 := dv k a b
  have h2 := dv ⟨k.det * k.B', -(k.det * k.B), 0, -(k.det * k.A'), k.det * k.A, 0⟩ (k.f a) (k.f b)
  have hd : k.det * k.det = 1 := by rcases hk with h | h <;> rw [h] <;> rfl
  have e1 : (Aff.f ⟨k.det * k.B', -(k.det * k.B), 0, -(k.det * k.A'), k.det * k.A, 0⟩ (k.f b)).1 - (Aff.f ⟨k.det * k.B', -(k.det * k.B), 0, -(k.det * k.A'), k.det * k.A, 0⟩ (k.f a)).1 = b.1 - a.1 := by
    have : (Aff.f ⟨k.det * k.B', -(k.det * k.B), 0, -(k.det * k.A'), k.det * k.A, 0⟩ (k.f b)).1 - (Aff.f ⟨k.det * k.B', -(k.det * k.B), 0, -(k.det * k.A'), k.det * k.A, 0⟩ (k.f a)).1 = (k.det * k.det) * (b.1 - a.1) := by
      unfold Aff.f
      simp only
      generalize hD : k.det = D
      unfold Aff.det at hD
      grind
    rw [this, hd, Int.one_mul]
  have e2 : (Aff.f ⟨k.det * k.B', -(k.det * k.B), 0, -(k.det * k.A'), k.det * k.A, 0⟩ (k.f b)).2 - (Aff.f ⟨k.det * k.B', -(k.det * k.B), 0, -(k.det * k.A'), k.det * k.A, 0⟩ (k.f a)).2 = b.2 - a.2 := by
    have : (Aff.f ⟨k.det * k.B', -(k.det * k.B), 0, -(k.det * k.A'), k.det * k.A, 0⟩ (k.f b)).2 - (Aff.f ⟨k.det * k.B', -(k.det * k.B), 0, -(k.det * k.A'), k.det * k.A, 0⟩ (k.f a)).2 = (k.det * k.det) * (b.2 - a.2) := by
      unfold Aff.f
      simp only
      generalize hD : k.det = D
      unfold Aff.det at hD
      grind
    rw [this, hd, Int.one_mul]
  rw [e1, e2] at h2
  unfold gc
  have h1' := Int.natCast_dvd_natCast.mp h1
  have h2' := Int.natCast_dvd_natCast.mp h2
  exact congrArg _ (Nat.dvd_antisymm h2' h1')
theorem fe_aff {k : Aff} (hk : k.det = 1 ∨ k.det = -1) (l : List Pt) : fe (l.map k.f) = fe l := by
  unfold fe
  rw [E_map, List.map_map]
  exact sum_congr fun e _ => gc_aff hk e.1 e.2
theorem fe_inOrder (l : List Pt) : fe (PG.inOrder l) = fe l := by
  unfold PG.inOrder
  rw [← (Rot_rot _ _).fe]
  unfold PG.orient
  split
  · rw [(Rot_rev l).fe, fe_rev]
  · rfl
theorem ar_inOrder (l : List Pt) : ar (PG.inOrder l) = if ar l < 0 then - ar l else ar l := by
  unfold PG.inOrder
  rw [← (Rot_rot _ _).ar]
  unfold PG.orient
  rw [area_ar]
  split
  · rw [(Rot_rev l).ar, ar_rev]
  · rfl
theorem move_eq (l : List Pt) (x y : Int) : (l.map fun p => ((p.1 + x, p.2 + y) : Pt)) = l.map (Aff.f ⟨1, 0, x, 0, 1, y⟩) := by
  apply List.map_congr_left
  intro p _
  unfold Aff.f
  exact Prod.ext (by simp only; omega) (by simp only; omega)
theorem move_det (x y : Int) : Aff.det ⟨1, 0, x, 0, 1, y⟩ = 1 := by unfold Aff.det; simp
theorem Ccw.move {l : List Pt} (h : Ccw l) (x y : Int) : Ccw (l.map fun p => ((p.1 + x, p.2 + y) : Pt)) := by
  rw [move_eq]
  exact ⟨h.simp.aff (by rw [move_det]; decide), by rw [ar_aff, move_det]; have := h.pos; omega⟩
end GE

set_option linter.all false
set_option maxHeartbeats 1000000
/-! GR: told in order; changed and changed back. -/
namespace GE
open PG (Pt turn onB crossT)
def lex (p q : Pt) : Prop := p.1 < q.1 ∨ (p.1 = q.1 ∧ p.2 < q.2)
theorem ltP_lex (p q : Pt) : PG.ltP p q = true ↔ lex p q := by unfold PG.ltP lex; simp
theorem lex_total {p q : Pt} (h : ¬ lex p q) : p = q ∨ lex q p := by
  unfold lex at *
  by_cases h1 : p.1 = q.1
  · by_cases h2 : p.2 = q.2
    · exact Or.inl (Prod.ext h1 h2)
    · right; omega
  · right; omega
theorem lex_trans {p q r : Pt} (h : lex p q) (h' : lex q r) : lex p r := by unfold lex at *; omega
theorem lex_irr {p : Pt} (h : lex p p) : False := by unfold lex at h; omega
theorem minP_spec : ∀ (xs : List Pt) (x : Pt), (PG.minP x xs = x ∨ PG.minP x xs ∈ xs) ∧ ∀ q, q = x ∨ q ∈ xs → q = PG.minP x xs ∨ lex (PG.minP x xs) q
  | [], x => ⟨Or.inl rfl, fun q h => by
    rcases h with h | h
    · exact Or.inl h
    · cases h⟩
  | y :: ys, x => by
    have e : PG.minP x (y :: ys) = PG.minP (if PG.ltP y x = true then y else x) ys := rfl
    have ih := minP_spec ys (if PG.ltP y x = true then y else x)
    rw [e]
    by_cases hc : PG.ltP y x = true
    · rw [if_pos hc] at ih ⊢
      have hl := (ltP_lex _ _).mp hc
      refine ⟨?_, ?_⟩
      · rcases ih.1 with h | h
        · right; rw [h]; exact List.mem_cons_self
        · exact Or.inr (List.mem_cons_of_mem _ h)
      · intro q h
        rcases h with h | h
        · rcases ih.2 y (Or.inl rfl) with k | k
          · right; rw [← k, h]; exact hl
          · right; rw [h]; exact lex_trans k hl
        · rcases List.mem_cons.mp h with h | h
          · exact ih.2 q (Or.inl h)
          · exact ih.2 q (Or.inr h)
    · rw [if_neg hc] at ih ⊢
      have hl := lex_total (fun k => hc ((ltP_lex _ _).mpr k))
      refine ⟨?_, ?_⟩
      · rcases ih.1 with h | h
        · exact Or.inl h
        · exact Or.inr (List.mem_cons_of_mem _ h)
      · intro q h
        rcases h with h | h
        · exact ih.2 q (Or.inl h)
        · rcases List.mem_cons.mp h with h | h
          · rcases hl with hl | hl
            · rw [h, hl]; exact ih.2 x (Or.inl rfl)
            · rcases ih.2 x (Or.inl rfl) with k | k
              · right; rw [h, ← k]; exact hl
              · right; rw [h]; exact lex_trans k hl
          · exact ih.2 q (Or.inr h)
theorem minL_spec {l : List Pt} (h : l ≠ []) : PG.minL l ∈ l ∧ ∀ q ∈ l, q = PG.minL l ∨ lex (PG.minL l) q := by
  match l, h with
  | x :: xs, _ =>
    have k := minP_spec xs x
    refine ⟨?_, fun q hq => k.2 q (List.mem_cons.mp hq)⟩
    show PG.minP x xs ∈ _
    rcases k.1 with e | e
    · rw [e]; exact List.mem_cons_self
    · exact List.mem_cons_of_mem _ e
/-- turned about, corner by corner -/
inductive Rt : List Pt → List Pt → Prop
  | refl (l : List Pt) : Rt l l
  | step {a : Pt} {L m : List Pt} : Rt (L ++ [a]) m → Rt (a :: L) m
theorem Rt.trans {l m k : List Pt} (h : Rt l m) (h' : Rt m k) : Rt l k := by
  induction h with
  | refl => exact h'
  | step _ ih => exact .step (ih h')
theorem Rt_app : ∀ (A B : List Pt), Rt (A ++ B) (B ++ A)
  | [], B => by rw [List.append_nil]; exact .refl _
  | a :: A, B => by
    have := Rt_app A (B ++ [a])
    have e1 : A ++ (B ++ [a]) = (A ++ B) ++ [a] := (List.append_assoc _ _ _).symm
    have e2 : (B ++ [a]) ++ A = B ++ (a :: A) := by simp
    rw [e1, e2] at this
    exact .step this
theorem Rt.symm {l m : List Pt} (h : Rt l m) : Rt m l := by
  induction h with
  | refl => exact .refl _
  | @step a L m _ ih => exact ih.trans (Rt_app L [a])
theorem Rt.map (f : Pt → Pt) {l m : List Pt} (h : Rt l m) : Rt (l.map f) (m.map f) := by
  induction h with
  | refl => exact .refl _
  | @step a L m _ ih =>
    rw [List.map_append] at ih
    exact .step ih
theorem Rt.reverse {l m : List Pt} (h : Rt l m) : Rt l.reverse m.reverse := by
  induction h with
  | refl => exact .refl _
  | @step a L m _ ih =>
    rw [List.reverse_cons]
    rw [List.reverse_append] at ih
    exact (Rt_app L.reverse [a]).trans ih
theorem Rt.rot {l m : List Pt} (h : Rt l m) : Rot l m := by
  induction h with
  | refl => exact Rot.refl _
  | @step a L m _ ih => exact (Rot_app [a] L).trans ih
theorem Rt.split {l m : List Pt} (h : Rt l m) : ∃ A B, l = A ++ B ∧ m = B ++ A := by
  induction h with
  | refl l => exact ⟨[], l, rfl, by simp⟩
  | @step a L m _ ih =>
    obtain ⟨A, B, h1, h2⟩ := ih
    rcases List.eq_nil_or_concat B with e | ⟨B0, b, e⟩
    · subst e
      rw [List.append_nil] at h1
      exact ⟨[a], L, rfl, by rw [h2, h1]; rfl⟩
    · rw [List.concat_eq_append] at e
      subst e
      rw [← List.append_assoc] at h1
      obtain ⟨h3, h4⟩ := List.append_inj' h1 rfl
      have h5 : a = b := by simpa using h4
      subst h5
      exact ⟨a :: A, B0, by rw [h3]; rfl, by rw [h2]; simp⟩
theorem Rt_uniq {l m : List Pt} (h : Rt l m) (hn : l.Nodup) {x : Pt} {L M : List Pt} (e1 : l = x :: L) (e2 : m = x :: M) : l = m := by
  obtain ⟨A, B, h1, h2⟩ := h.split
  match A, B, h1, h2 with
  | [], B, h1, h2 => rw [h1, h2]; simp
  | A, [], h1, h2 => rw [h1, h2]; simp
  | a :: A, b :: B, h1, h2 =>
    exfalso
    have ea : a = x := by rw [e1] at h1; exact (List.cons.inj h1).1.symm
    have eb : b = x := by rw [e2] at h2; exact (List.cons.inj h2).1.symm
    rw [h1, ea, eb] at hn
    have := (List.nodup_cons.mp hn).1
    exact this (List.mem_append_right _ List.mem_cons_self)
theorem Rt_rot (l : List Pt) (k : Nat) : Rt l (PG.rot l k) := by
  have := Rt_app (l.take k) (l.drop k)
  rw [List.take_append_drop] at this
  exact this
/-- in order: the least corner first, the inside to the left -/
structure Canon (m : List Pt) : Prop where
  pos : 0 < ar m
  head : ∃ h r, m = h :: r ∧ ∀ p ∈ m, p = h ∨ lex h p
theorem orient_mem {l : List Pt} {p : Pt} : p ∈ PG.orient l ↔ p ∈ l := by
  unfold PG.orient
  split
  · exact List.mem_reverse
  · exact Iff.rfl
theorem Canon_inOrder {l : List Pt} (h : Simp l) : Canon (PG.inOrder l) := by
  refine ⟨(Ccw_inOrder h).pos, ?_⟩
  have h0 : PG.orient l ≠ [] := by
    intro e
    have := (Ccw_orient h).simp.len
    rw [e] at this; simp at this
  obtain ⟨k1, k2⟩ := minL_spec h0
  have hlt := List.idxOf_lt_length_of_mem k1
  refine ⟨PG.minL (PG.orient l), (PG.orient l).drop ((PG.orient l).idxOf (PG.minL (PG.orient l)) + 1) ++ (PG.orient l).take ((PG.orient l).idxOf (PG.minL (PG.orient l))), ?_, ?_⟩
  · unfold PG.inOrder PG.rot
    rw [List.drop_eq_getElem_cons hlt, List.getElem_idxOf hlt]; rfl
  · intro p hp
    exact k2 p (orient_mem.mpr (mem_inOrder.mp hp))
/-- a turn of it, or of it told the other way -/
def Q (l m : List Pt) : Prop := Rt l m ∨ Rt l.reverse m
theorem Q.trans {l m k : List Pt} (h : Q l m) (h' : Q m k) : Q l k := by
  rcases h with h | h <;> rcases h' with h' | h'
  · exact Or.inl (h.trans h')
  · exact Or.inr (h.reverse.trans h')
  · exact Or.inr (h.trans h')
  · left
    have := h.reverse
    rw [List.reverse_reverse] at this
    exact this.trans h'
theorem Q.symm {l m : List Pt} (h : Q l m) : Q m l := by
  rcases h with h | h
  · exact Or.inl h.symm
  · right
    have := h.symm.reverse
    rw [List.reverse_reverse] at this
    exact this
theorem Q.map (f : Pt → Pt) {l m : List Pt} (h : Q l m) : Q (l.map f) (m.map f) := by
  rcases h with h | h
  · exact Or.inl (h.map f)
  · right
    have := h.map f
    rw [List.map_reverse] at this
    exact this
theorem Q_inOrder (l : List Pt) : Q l (PG.inOrder l) := by
  unfold PG.inOrder
  have := Rt_rot (PG.orient l) ((PG.orient l).idxOf (PG.minL (PG.orient l)))
  unfold PG.orient at this ⊢
  split at this
  · rename_i h; simp only [h, if_true] at this ⊢; exact Or.inr this
  · rename_i h; simp only [h, if_false] at this ⊢; exact Or.inl this
theorem inOrder_eq {l m : List Pt} (hs : Simp l) (hm : Canon m) (h : Q l m) : PG.inOrder l = m := by
  have hI := Canon_inOrder hs
  have hQ := (Q_inOrder l).symm.trans h
  -- not the other way
  have hRt : Rt (PG.inOrder l) m := by
    rcases hQ with k | k
    · exact k
    · exfalso
      have e1 := k.rot.ar
      have e2 := (Rot_rev (PG.inOrder l)).ar
      have e3 := ar_rev (PG.inOrder l)
      have := hm.pos
      have := hI.pos
      omega
  obtain ⟨x, L, e1, k1⟩ := hI.head
  obtain ⟨y, M, e2, k2⟩ := hm.head
  have hx : x ∈ m := (hRt.rot.mem x).mp (by rw [e1]; exact List.mem_cons_self)
  have hy : y ∈ PG.inOrder l := (hRt.rot.mem y).mpr (by rw [e2]; exact List.mem_cons_self)
  have hxy : x = y := by
    rcases k1 y hy with k | k
    · exact k.symm
    · rcases k2 x hx with k' | k'
      · exact k'
      · exact absurd (lex_trans k k') lex_irr
  subst hxy
  exact Rt_uniq hRt (Ccw_inOrder hs).simp.nd e1 e2
theorem inOrder_self {m : List Pt} (hs : Simp m) (hm : Canon m) : PG.inOrder m = m := inOrder_eq hs hm (Or.inl (.refl _))
theorem map_back {f g : Pt → Pt} (h : ∀ p, g (f p) = p) (l : List Pt) : (l.map f).map g = l := by
  rw [List.map_map]
  have : (g ∘ f) = id := funext h
  rw [this, List.map_id]
/-- changed, and changed back -/
theorem back {K : List Pt} (hs : Simp K) (hK : Canon K) {f g : Aff} (hf : f.det ≠ 0) (hg : g.det ≠ 0) (h : ∀ p, g.f (f.f p) = p) :
    PG.inOrder ((PG.inOrder (K.map f.f)).map g.f) = K := by
  have hM := hs.aff hf
  have hN := (Ccw_inOrder hM).simp
  refine inOrder_eq (hN.aff hg) hK ?_
  have := (Q_inOrder (K.map f.f)).map g.f
  rw [map_back h] at this
  exact this.symm
theorem back4 {K : List Pt} (hs : Simp K) (hK : Canon K) {f : Aff} (hf : f.det ≠ 0) (h : ∀ p, f.f (f.f (f.f (f.f p))) = p) :
    PG.inOrder ((PG.inOrder ((PG.inOrder ((PG.inOrder (K.map f.f)).map f.f)).map f.f)).map f.f) = K := by
  have s1 := (Ccw_inOrder (hs.aff hf)).simp
  have s2 := (Ccw_inOrder (s1.aff hf)).simp
  have s3 := (Ccw_inOrder (s2.aff hf)).simp
  have q1 := (Q_inOrder (K.map f.f)).map f.f
  have q2 := (q1.trans (Q_inOrder _)).map f.f
  have q3 := (q2.trans (Q_inOrder _)).map f.f
  refine inOrder_eq (s3.aff hf) hK ?_
  have e : (((K.map f.f).map f.f).map f.f).map f.f = K := by
    rw [List.map_map, List.map_map, List.map_map]
    have : ((f.f ∘ f.f) ∘ f.f) ∘ f.f = id := funext h
    rw [this, List.map_id]
  rw [e] at q3
  exact q3.symm
theorem Canon_plot (n w : Int) (hw : 0 < w) : Canon (PG.plot n w) := by
  unfold PG.plot
  apply Canon_inOrder
  have := (base_simp n w hw).aff (k := ⟨1, 0, - (n / 512 % 3 * w / 4), 0, 1, 0⟩) (by unfold Aff.det; simp)
  have e : (PG.base n w).map (Aff.f ⟨1, 0, - (n / 512 % 3 * w / 4), 0, 1, 0⟩) = (PG.base n w).map fun p => (p.1 - n / 512 % 3 * w / 4, p.2) := by
    apply List.map_congr_left
    intro p _
    unfold Aff.f
    simp only
    exact Prod.ext (by simp only; omega) (by simp only; omega)
  rw [← e]; exact this
theorem fe_sc {t : Int} (ht : 0 ≤ t) (l : List Pt) : fe (l.map (sc t)) = t * fe l := by
  unfold fe
  rw [E_map, List.map_map]
  have h := sum_lin t (fun e : Ed => gc e.1 e.2) (fun _ => 0) (E l)
  have z : ((E l).map fun _ : Ed => (0 : Int)).sum = 0 := by
    generalize E l = S
    induction S with
    | nil => rfl
    | cons e S ih => rw [List.map_cons, List.sum_cons, ih]; rfl
  rw [z, Int.add_zero] at h
  rw [← h]
  apply sum_congr
  intro e _
  show gc (sc t e.1) (sc t e.2) = _
  unfold gc sc
  simp only
  rw [← Int.mul_sub, ← Int.mul_sub, Int.gcd_mul_left, Int.natCast_mul]
  have : ((t.natAbs : Nat) : Int) = t := by omega
  rw [this, Int.add_zero]
theorem sc_aff (t : Int) : sc t = Aff.f ⟨t, 0, 0, 0, t, 0⟩ := by
  funext p
  unfold sc Aff.f
  simp
theorem ar_sc (t : Int) (l : List Pt) : ar (l.map (sc t)) = t * t * ar l := by
  rw [sc_aff, ar_aff]
  unfold Aff.det; simp
end GE

set_option Elab.async false
set_option linter.all false
set_option maxRecDepth 100000
set_option maxHeartbeats 1000000
/-! PN10: areas and fences. -/
namespace PL
open PySem L2 PG
theorem gcd_step (a b c k : Int) (h : c = a - b * k) : Int.gcd b c = Int.gcd a b := by
  subst h
  have : a - b * k = a - k * b := by rw [Int.mul_comm]
  rw [this, Int.gcd_sub_mul_right_right, Int.gcd_comm]
theorem gMod_any {a b : Int} (h : b ≠ 0) : ∃ c k : Int, gMod (.int a) (.int b) = .ok (.int c) ∧ c = a - b * k ∧ c.natAbs < b.natAbs := by
  rcases Int.lt_or_gt_of_ne h with h0 | h0
  · refine ⟨a.fmod b, a.fdiv b, ?_, Int.fmod_def a b, ?_⟩
    · unfold gMod; dsimp only; rw [if_neg (by omega), if_pos h0]
    · have e := Int.fmod_eq_emod (a := a) (b := b)
      have h1 := Int.emod_nonneg a h
      have h2 : a % b < b.natAbs := by
        have := Int.emod_lt_of_pos a (show 0 < -b by omega)
        rw [Int.emod_neg] at this
        omega
      rw [e]
      split
      · rename_i hc
        rcases hc with hc | hc
        · omega
        · have := Int.emod_eq_zero_of_dvd hc
          omega
      · rename_i hc
        have : a % b ≠ 0 := fun e => hc (Or.inr (Int.dvd_of_emod_eq_zero e))
        omega
  · refine ⟨a % b, a / b, gMod_int h0, Int.emod_def a b, ?_⟩
    have h1 := Int.emod_nonneg a h
    have h2 := Int.emod_lt_of_pos a h0
    omega
def pdc : CE := c2 gNe (cVar 1) (cC (.int 0))
def pdb : CS := sPar 0 1 (aCons (cVar 1) (aCons (c2 gMod (cVar 0) (cVar 1)) aNil))
theorem pd_loop : ∀ (m : Nat) (a b : Int) (f : Nat), b.natAbs ≤ m → m + 1 ≤ f →
    ∃ x : Int, whileL pdc pdb f [.val (.int a), .val (.int b)] = .nx [.val (.int x), .val (.int 0)] ∧ (x.natAbs : Nat) = Int.gcd a b
  | _, _, _, 0, _, h => by omega
  | m, a, b, f + 1, hm, hf => by
    have hc : pdc (fE [.val (.int a), .val (.int b)]) = .ok (.bool (!decide (b = 0))) := c2_is rfl rfl (gNe_int _ _)
    by_cases h : b = 0
    · subst h
      refine ⟨a, ?_, by rw [Int.gcd_zero_right]⟩
      rw [whileL, hc]; rfl
    · obtain ⟨c, k, h1, h2, h3⟩ := gMod_any (a := a) h
      match m, hm with
      | 0, hm => omega
      | m + 1, hm =>
        obtain ⟨x, hx, hg⟩ := pd_loop m b c f (by omega) (by omega)
        refine ⟨x, ?_, by rw [hg]; exact gcd_step a b c k h2⟩
        rw [whileL, hc, decide_eq_false h]
        have hb : pdb [.val (.int a), .val (.int b)] = .nx [.val (.int b), .val (.int c)] := by
          unfold pdb
          simp only [runP_eq, runX_eq, iniS, sSeq_eq, sIf_eq, brB_ok, sq_nx, sq_rt, sq_ite, unr_rt, unr_ite, and_b, or_b, or_t, or_f, and_t, and_f, not_b, bok, vE, fE, Sl.f, Sl.v, sNext, sRet, sAsg, sAsg2, hEv, sPar, hEvA, c1, c2, cA, cVar, cC, cAnd, cOr, cNot, cChain, aNil, aCons, gAdd_int, gSub_int, gNeg_int, gLt_int, gLe_int, gGt_int, gGe_int, gEq_int, gNe_int, min_int, max_int, ix0, ix1, mk_pt, pureS, tName, tPair, sName, sPair, wipeE, List.map_cons, List.map_nil, List.set_cons_succ, List.set_cons_zero, List.getElem?_cons_zero, List.getElem?_cons_succ, h1]
        try dsimp only [Bool.not_false]
        show (match pdb [.val (.int a), .val (.int b)] with | .nx ρ' => whileL pdc pdb f ρ' | .ct ρ' => whileL pdc pdb f ρ' | .bk ρ' => .nx ρ' | r => r) = _
        rw [hb]
        exact hx
theorem e_p_divisor (a b : Int) (hb : b.natAbs < 99999) : m_p_divisor [.int a, .int b] = .ok (.int (Int.gcd a b : Int)) := by
  obtain ⟨x, hx, hg⟩ := pd_loop b.natAbs a b FUEL (Nat.le_refl _) (by unfold FUEL; omega)
  unfold m_p_divisor b_p_divisor
  rw [runP_eq, sSeq_eq]
  show unr (sq (whileL pdc pdb FUEL [.val (.int a), .val (.int b)]) _) = _
  rw [hx, sq_nx]
  show R.ok (PyData.int (if x < 0 then -x else x)) = _
  rw [← hg]
  congr 2
  split <;> omega
def ldc : CE := c2 gGt (cVar 3) (cC (.int 0))
def ldb : CS := sPar 2 3 (aCons (cVar 3) (aCons (c2 gMod (cVar 2) (cVar 3)) aNil))
theorem ld_loop (s0 s1 : Sl) : ∀ (m : Nat) (a b : Int) (f : Nat), 0 ≤ a → 0 ≤ b → b.natAbs ≤ m → m + 1 ≤ f →
    whileL ldc ldb f [s0, s1, .val (.int a), .val (.int b)] = .nx [s0, s1, .val (.int (Int.gcd a b : Int)), .val (.int 0)]
  | _, _, _, 0, _, _, _, h => by omega
  | m, a, b, f + 1, ha, hb0, hm, hf => by
    have hc : ldc (fE [s0, s1, .val (.int a), .val (.int b)]) = .ok (.bool (decide (0 < b))) := c2_is rfl rfl rfl
    by_cases h : b = 0
    · subst h
      rw [whileL, hc, Int.gcd_zero_right]
      have : ((a.natAbs : Nat) : Int) = a := by omega
      rw [this]; rfl
    · have h0 : 0 < b := by omega
      match m, hm with
      | 0, hm => omega
      | m + 1, hm =>
        have hx := ld_loop s0 s1 m b (a % b) f (by omega) (Int.emod_nonneg a h) (by
          have h1 := Int.emod_nonneg a h
          have h2 := Int.emod_lt_of_pos a h0
          omega) (by omega)
        rw [gcd_step a b (a % b) (a / b) (Int.emod_def a b)] at hx
        rw [whileL, hc, decide_eq_true h0]
        have hb : ldb [s0, s1, .val (.int a), .val (.int b)] = .nx [s0, s1, .val (.int b), .val (.int (a % b))] := by
          unfold ldb
          simp only [runP_eq, runX_eq, iniS, sSeq_eq, sIf_eq, brB_ok, sq_nx, sq_rt, sq_ite, unr_rt, unr_ite, and_b, or_b, or_t, or_f, and_t, and_f, not_b, bok, vE, fE, Sl.f, Sl.v, sNext, sRet, sAsg, sAsg2, hEv, sPar, hEvA, c1, c2, cA, cVar, cC, cAnd, cOr, cNot, cChain, aNil, aCons, gAdd_int, gSub_int, gNeg_int, gLt_int, gLe_int, gGt_int, gGe_int, gEq_int, gNe_int, min_int, max_int, ix0, ix1, mk_pt, pureS, tName, tPair, sName, sPair, wipeE, List.map_cons, List.map_nil, List.set_cons_succ, List.set_cons_zero, List.getElem?_cons_zero, List.getElem?_cons_succ, gMod_int h0]
        dsimp only
        rw [hb]
        exact hx
theorem abs_if (x : Int) : (if x < 0 then -x else x) = (x.natAbs : Int) := by split <;> omega
theorem e_l_divisor (a b : Int) (hb : b.natAbs < 99999) : m_l_divisor [.int a, .int b] = .ok (.int (Int.gcd a b : Int)) := by
  have hx := ld_loop (.val (.int a)) (.val (.int b)) b.natAbs (a.natAbs : Int) (b.natAbs : Int) FUEL (by omega) (by omega) (by omega) (by unfold FUEL; omega)
  unfold m_l_divisor b_l_divisor
  rw [runP_eq, sSeq_eq, show sAsg 2 (cA gAbs (aCons (cVar 0) aNil)) (iniS 4 [.int a, .int b]) = .nx [.val (.int a), .val (.int b), .val (.int (a.natAbs : Int)), .non] from sAsg_ok (fn1 rfl (by unfold gAbs; dsimp only; rw [abs_if])), sq_nx, sSeq_eq,
    show sAsg 3 (cA gAbs (aCons (cVar 1) aNil)) [.val (.int a), .val (.int b), .val (.int (a.natAbs : Int)), .non] = .nx [.val (.int a), .val (.int b), .val (.int (a.natAbs : Int)), .val (.int (b.natAbs : Int))] from sAsg_ok (fn1 rfl (by unfold gAbs; dsimp only; rw [abs_if])), sq_nx, sSeq_eq]
  show unr (sq (whileL ldc ldb FUEL _) _) = _
  rw [hx, sq_nx]
  show R.ok (PyData.int (Int.gcd (a.natAbs : Int) (b.natAbs : Int) : Int)) = _
  have : Int.gcd (a.natAbs : Int) (b.natAbs : Int) = Int.gcd a b := by unfold Int.gcd; simp
  rw [this]
theorem e_p_fence {d : D} {l : List PG.Pt} (hd : IsPs d l) (hb : AllB 10000 l) (hl : l.length < 1000) : m_p_fence_stakes [d] = .ok (.int (GE.fence l)) := by
  unfold m_p_fence_stakes b_p_fence_stakes
  rw [runP_eq]
  refine congrArg unr (sRet_ok (d := .int (GE.fence l)) ?_) |>.trans rfl
  unfold GE.fence
  refine fn1 ?_ (sum_ints _)
  rw [List.map_map]
  refine cLc_map (fun (i : Nat) => sideD (at_ l i) (nx l (i + 1))) (xs := List.range l.length) (fun i => (.int (GE.gc (at_ l i) (nx l (i + 1))) : D)) (src1 (call1 (x := d) rfl (e_sides hd hl)) rfl) (by rw [List.length_range]; exact le_size hl) (by
    intro i hi
    have hi := List.mem_range.mp hi
    have h0 : 0 < l.length := by omega
    have b1 := hb.at_ hi
    have b2 := hb.nx h0 (i + 1)
    unfold Bd at b1 b2
    generalize at_ l i = p at *
    generalize nx l (i + 1) = q at *
    exact ⟨_, rfl, call2 (c2_is (c2_is rfl rfl (ix0 q)) (c2_is rfl rfl (ix0 p)) rfl) (c2_is (c2_is rfl rfl (ix1 q)) (c2_is rfl rfl (ix1 p)) rfl) (e_p_divisor _ _ (by omega))⟩)
theorem e_l_fence {d : D} {l : List PG.Pt} (hd : IsPs d l) (hb : AllB 10000 l) (h0 : 0 < l.length) : m_l_fence [d] = .ok (.int (GE.fence l)) := by
  have he := enum_ps hd
  have hfor := forL_acc (fun (i : Nat) => (PyData.tuple [.int (i : Int), pt (at_ l i)] : D)) (sPair 2 3)
    (sSeq (sAsg 4 (cA (pureS m_l_next) (aCons (cVar 0) (aCons (cVar 2) (aCons (cC (.int 1)) aNil)))))
      (sAsg 1 (c2 gAdd (cVar 1) (cA (pureS m_l_divisor) (aCons (c2 gSub (c2 gIx (cVar 4) (cC (.int 0))) (c2 gIx (cVar 3) (cC (.int 0)))) (aCons (c2 gSub (c2 gIx (cVar 4) (cC (.int 1))) (c2 gIx (cVar 3) (cC (.int 1)))) aNil))))))
    (fun (s : Int) (σ : SE) => ∃ a b c, σ = [.val d, .val (.int s), a, b, c]) (fun s i => s + GE.gc (at_ l i) (nx l (i + 1)))
    (List.range l.length) 0 [.val d, .val (.int 0), .non, .non, .non] ⟨_, _, _, rfl⟩ (by
      rintro s i hi σ ⟨a, b, c, rfl⟩
      have hi := List.mem_range.mp hi
      refine ⟨_, rfl, ?_⟩
      have hn := e_next1 hd h0 i
      have b1 := hb.at_ hi
      have b2 := hb.nx h0 (i + 1)
      unfold Bd at b1 b2
      have m1 := e_l_divisor ((nx l (i + 1)).1 - (at_ l i).1) ((nx l (i + 1)).2 - (at_ l i).2) (by omega)
      simp [runP_eq, runX_eq, iniS, sSeq_eq, sIf_eq, brB_ok, sq_nx, sq_rt, sq_ite, unr_rt, unr_ite, and_b, or_b, or_t, or_f, and_t, and_f, not_b, bok, vE, fE, Sl.f, Sl.v, sNext, sRet, sAsg, sAsg2, hEv, sPar, hEvA, c1, c2, cA, cVar, cC, cAnd, cOr, cNot, cChain, aNil, aCons, gAdd_int, gSub_int, gNeg_int, gLt_int, gLe_int, gGt_int, gGe_int, gEq_int, gNe_int, min_int, max_int, ix0, ix1, mk_pt, pureS, tName, tPair, sName, sPair, wipeE, hn, m1, GE.gc])
  obtain ⟨σ', h1, a, b, c, h2⟩ := hfor
  subst h2
  rw [foldl_sum] at h1
  simp [m_l_fence, b_l_fence, runP_eq, runX_eq, iniS, sSeq_eq, sIf_eq, brB_ok, sq_nx, sq_rt, sq_ite, unr_rt, unr_ite, and_b, or_b, or_t, or_f, and_t, and_f, not_b, bok, vE, fE, Sl.f, Sl.v, sNext, sRet, sAsg, sAsg2, hEv, sPar, hEvA, c1, c2, cA, cVar, cC, cAnd, cOr, cNot, cChain, aNil, aCons, gAdd_int, gSub_int, gNeg_int, gLt_int, gLe_int, gGt_int, gGe_int, gEq_int, gNe_int, min_int, max_int, ix0, ix1, mk_pt, pureS, tName, tPair, sName, sPair, wipeE, sFor, he, h1, GE.fence]
theorem e_p_twice {d : D} {l : List PG.Pt} (hd : IsPs d l) (hb : AllB 1000000 l) (hl : l.length < 1000) : m_p_twice_area [d] = .ok (.int (area l)) := by
  unfold m_p_twice_area b_p_twice_area
  rw [runP_eq]
  exact congrArg unr (sRet_ok (call1 (x := d) rfl (e_p_area hd hb hl)))
theorem e_l_num (x i j : Int) : m_l_number [.int x, .int i, .int j] = .ok (.bool (decide (i ≤ x) && decide (x ≤ j))) := by
  unfold m_l_number b_l_number
  rw [runP_eq]
  refine congrArg unr (sRet_ok (d := .bool (decide (i ≤ x) && decide (x ≤ j))) ?_) |>.trans rfl
  unfold cAnd cNot c1
  show (R.ok (PyData.bool true)).bind _ = _
  rw [bok, and_t]
  show (R.bind (R.ok (PyData.bool true)) _) = _
  rw [bok, and_t]
  exact chain_le i x j rfl rfl rfl
theorem law10_true (ns : List Int) : m_l_law_k10 [intsD ns] = .ok (.bool true) := by
  obtain ⟨w, hw, hw1, hw2⟩ : ∃ w : Int, gIx (.tuple [.int 4, .int 12, .int 100]) (.int (mixed ns 1 % 3)) = .ok (.int w) ∧ 4 ≤ w ∧ w ≤ 100 := by
    have : mixed ns 1 % 3 = 0 ∨ mixed ns 1 % 3 = 1 ∨ mixed ns 1 % 3 = 2 := by omega
    rcases this with h | h | h <;> rw [h]
    · exact ⟨4, rfl, by decide, by decide⟩
    · exact ⟨12, rfl, by decide, by decide⟩
    · exact ⟨100, rfl, by decide, by decide⟩
  have hp := e_plot (mixed ns 0) w (by omega) (by omega)
  have hpb := plot_bd (mixed ns 0) w (by omega) (by omega)
  have hnum := GE.plot_nums (mixed ns 0) w (by omega) (by omega)
  have m0 := e_mixed ns 0
  have m1 := e_mixed ns 1
  generalize plot (mixed ns 0) w = l at *
  have hd : IsPs (.tuple (l.map pt)) l := .inr rfl
  have hb : AllB 1000000 l := hpb.1.mono (by decide)
  have hb2 : AllB 10000 l := hpb.1.mono (by decide)
  have h0 := hpb.2.2
  have hl : l.length < 1000 := by omega
  have mod3 : gMod (.int (mixed ns 1)) (.int 3) = .ok (.int (mixed ns 1 % 3)) := gMod_int (by decide)
  have a1 := e_p_twice hd hb hl
  have a2 := e_area hd hb
  have f1 := e_p_fence hd hb2 hl
  have f2 := e_l_fence hd hb2 h0
  rw [← GE.area_ar, ← GE.fence_fe] at hnum
  generalize area l = A at *
  generalize GE.fence l = F at *
  have n1 := e_l_num A 1 80000
  have n2 := e_l_num F 3 3000
  rw [decide_eq_true (by omega), decide_eq_true (by omega)] at n1 n2
  unfold m_l_law_k10 b_l_law_k10
  rw [runP_eq, sSeq_eq, show sAsg 1 (cA (pureS m_l_plot) (aCons (cA (pureS m_l_mixed) (aCons (cVar 0) (aCons (cC (.int 0)) aNil))) (aCons (c2 gIx (cA mkTup (aCons (cC (.int 4)) (aCons (cC (.int 12)) (aCons (cC (.int 100)) aNil)))) (c2 gMod (cA (pureS m_l_mixed) (aCons (cVar 0) (aCons (cC (.int 1)) aNil))) (cC (.int 3)))) aNil))) (iniS 4 [intsD ns]) = .nx [.val (intsD ns), .val (.tuple (l.map pt)), .non, .non] from
      sAsg_ok (call2 (call2 rfl rfl m0) (c2_is (x := .tuple [.int 4, .int 12, .int 100]) (fn3 rfl rfl rfl (size3 _ _ _)) (c2_is (call2 rfl rfl m1) rfl mod3) hw) hp), sq_nx, sSeq_eq,
    show sAsg 2 (cA (pureS m_p_twice_area) (aCons (cVar 1) aNil)) [.val (intsD ns), .val (.tuple (l.map pt)), .non, .non] = .nx [.val (intsD ns), .val (.tuple (l.map pt)), .val (.int A), .non] from sAsg_ok (call1 rfl a1), sq_nx, sSeq_eq,
    show sAsg 3 (cA (pureS m_p_fence_stakes) (aCons (cVar 1) aNil)) [.val (intsD ns), .val (.tuple (l.map pt)), .val (.int A), .non] = .nx [.val (intsD ns), .val (.tuple (l.map pt)), .val (.int A), .val (.int F)] from sAsg_ok (call1 rfl f1), sq_nx, sSeq_eq]
  have hif : sIf (cOr (cNot (cA (pureS m_l_number) (aCons (cVar 2) (aCons (cC (.int 1)) (aCons (cC (.int 80000)) aNil))))) (cNot (cA (pureS m_l_number) (aCons (cVar 3) (aCons (cC (.int 3)) (aCons (cC (.int 3000)) aNil)))))) (sRet (cC (.bool false))) sNext [.val (intsD ns), .val (.tuple (l.map pt)), .val (.int A), .val (.int F)] = .nx [.val (intsD ns), .val (.tuple (l.map pt)), .val (.int A), .val (.int F)] := by
    simp [runP_eq, runX_eq, iniS, sSeq_eq, sIf_eq, brB_ok, sq_nx, sq_rt, sq_ite, unr_rt, unr_ite, and_b, or_b, or_t, or_f, and_t, and_f, not_b, bok, vE, fE, Sl.f, Sl.v, sNext, sRet, sAsg, sAsg2, hEv, sPar, hEvA, c1, c2, cA, cVar, cC, cAnd, cOr, cNot, cChain, aNil, aCons, gAdd_int, gSub_int, gNeg_int, gLt_int, gLe_int, gGt_int, gGe_int, gEq_int, gNe_int, min_int, max_int, ix0, ix1, mk_pt, pureS, tName, tPair, sName, sPair, wipeE, n1, n2]
  rw [hif, sq_nx]
  have hx : (cAnd (c2 gEq (cVar 2) (cA (pureS m_l_area) (aCons (cVar 1) aNil))) (c2 gEq (cVar 3) (cA (pureS m_l_fence) (aCons (cVar 1) aNil)))) (fE [.val (intsD ns), .val (.tuple (l.map pt)), .val (.int A), .val (.int F)]) = .ok (.bool true) := by
    unfold cAnd
    rw [show c2 gEq (cVar 2) (cA (pureS m_l_area) (aCons (cVar 1) aNil)) (fE [.val (intsD ns), .val (.tuple (l.map pt)), .val (.int A), .val (.int F)]) = .ok (.bool true) from c2_is rfl (call1 rfl a2) (by rw [gEq_int, decide_eq_true rfl]), bok, and_t]
    exact c2_is rfl (call1 rfl f2) (by rw [gEq_int, decide_eq_true rfl])
  rw [sRet_ok hx]
  rfl
end PL

set_option Elab.async false
set_option linter.all false
set_option maxRecDepth 100000
set_option maxHeartbeats 1000000
/-! PN20: stakes within. -/
namespace PL
open PySem L2 PG
def mnL : List Int → Int
  | [] => 0
  | n :: ns => minI n ns
def mxL : List Int → Int
  | [] => 0
  | n :: ns => maxI n ns
theorem gMin_ints {ns : List Int} (h : ns ≠ []) : gMin [.list (ns.map .int)] = .ok (.int (mnL ns)) := by
  unfold gMin
  dsimp only
  unfold minL
  rw [asInts_map]
  cases ns with
  | nil => exact absurd rfl h
  | cons n ns => rfl
theorem gMax_ints {ns : List Int} (h : ns ≠ []) : gMax [.list (ns.map .int)] = .ok (.int (mxL ns)) := by
  unfold gMax
  dsimp only
  unfold maxL
  rw [asInts_map]
  cases ns with
  | nil => exact absurd rfl h
  | cons n ns => rfl
theorem minI_le : ∀ (xs : List Int) (x : Int), (minI x xs = x ∨ minI x xs ∈ xs) ∧ ∀ y, y = x ∨ y ∈ xs → minI x xs ≤ y
  | [], x => ⟨Or.inl rfl, fun y h => by
    rcases h with h | h
    · rw [h]; exact Int.le_refl _
    · cases h⟩
  | z :: zs, x => by
    have ih := minI_le zs (if z < x then z else x)
    have e : minI x (z :: zs) = minI (if z < x then z else x) zs := rfl
    rw [e]
    refine ⟨?_, ?_⟩
    · rcases ih.1 with h | h
      · rw [h]
        split
        · exact Or.inr List.mem_cons_self
        · exact Or.inl rfl
      · exact Or.inr (List.mem_cons_of_mem _ h)
    · intro y h
      have k0 := ih.2 _ (Or.inl rfl)
      have k1 := ih.2 y
      generalize minI (if z < x then z else x) zs = M at *
      rcases h with h | h
      · subst h; split at k0 <;> omega
      · rcases List.mem_cons.mp h with h | h
        · subst h; split at k0 <;> omega
        · exact k1 (Or.inr h)
theorem maxI_ge : ∀ (xs : List Int) (x : Int), (maxI x xs = x ∨ maxI x xs ∈ xs) ∧ ∀ y, y = x ∨ y ∈ xs → y ≤ maxI x xs
  | [], x => ⟨Or.inl rfl, fun y h => by
    rcases h with h | h
    · rw [h]; exact Int.le_refl _
    · cases h⟩
  | z :: zs, x => by
    have ih := maxI_ge zs (if x < z then z else x)
    have e : maxI x (z :: zs) = maxI (if x < z then z else x) zs := rfl
    rw [e]
    refine ⟨?_, ?_⟩
    · rcases ih.1 with h | h
      · rw [h]
        split
        · exact Or.inr List.mem_cons_self
        · exact Or.inl rfl
      · exact Or.inr (List.mem_cons_of_mem _ h)
    · intro y h
      have k0 := ih.2 _ (Or.inl rfl)
      have k1 := ih.2 y
      generalize maxI (if x < z then z else x) zs = M at *
      rcases h with h | h
      · subst h; split at k0 <;> omega
      · rcases List.mem_cons.mp h with h | h
        · subst h; split at k0 <;> omega
        · exact k1 (Or.inr h)
theorem mnL_le {ns : List Int} {y : Int} (h : y ∈ ns) : mnL ns ≤ y := by
  cases ns with
  | nil => cases h
  | cons n ns => exact (minI_le ns n).2 y (List.mem_cons.mp h)
theorem mnL_mem {ns : List Int} (h : ns ≠ []) : mnL ns ∈ ns := by
  cases ns with
  | nil => exact absurd rfl h
  | cons n ns => exact List.mem_cons.mpr (minI_le ns n).1
theorem mxL_ge {ns : List Int} {y : Int} (h : y ∈ ns) : y ≤ mxL ns := by
  cases ns with
  | nil => cases h
  | cons n ns => exact (maxI_ge ns n).2 y (List.mem_cons.mp h)
theorem mxL_mem {ns : List Int} (h : ns ≠ []) : mxL ns ∈ ns := by
  cases ns with
  | nil => exact absurd rfl h
  | cons n ns => exact List.mem_cons.mpr (maxI_ge ns n).1
def xsL (l : List PG.Pt) : List Int := l.map (·.1)
def ysL (l : List PG.Pt) : List Int := l.map (·.2)
def innB (l : List PG.Pt) (s : PG.Pt) : Bool := !anyOn l s && parity l s
theorem gEq_in (l : List PG.Pt) (s : PG.Pt) : gEq (whereD l s) (.str "in") = .ok (.bool (innB l s)) := by
  unfold whereD innB
  cases anyOn l s <;> cases parity l s <;> rfl
theorem filter_sum {Y : Type} (p : Y → Bool) : ∀ xs : List Y, ((xs.filter p).length : Int) = (xs.map fun x => if p x = true then (1 : Int) else 0).sum
  | [] => rfl
  | x :: xs => by
    rw [List.map_cons, List.sum_cons, ← filter_sum p xs]
    cases h : p x with
    | true => rw [List.filter_cons_of_pos h]; simp; omega
    | false => rw [List.filter_cons_of_neg (by rw [h]; exact Bool.false_ne_true)]; simp
def wX (l : List PG.Pt) : Nat := (mxL (xsL l) + 1 - mnL (xsL l)).toNat
def wY (l : List PG.Pt) : Nat := (mxL (ysL l) + 1 - mnL (ysL l)).toNat
/-- the spots within, counted -/
def inner (l : List PG.Pt) : Int := GE.Bx (mnL (xsL l)) (mnL (ysL l)) (wX l) (wY l) (fun q => if innB l q = true then 1 else 0)
theorem rng_int {a b : Int} (ha : rngOk a) (hb : rngOk b) : rng2 [.int a, .int b] = .ok ((List.range (b - a).toNat).map fun (i : Nat) => .int (a + (i : Int))) := by
  unfold rng2
  dsimp only
  rw [if_pos ⟨ha, hb⟩]
  rfl
theorem rngOk_of {a : Int} (h1 : -2000000 ≤ a) (h2 : a ≤ 2000000) : rngOk a := by unfold rngOk; omega
theorem xs_bd {B : Int} {l : List PG.Pt} (hb : AllB B l) (h0 : l ≠ []) : -B ≤ mnL (xsL l) ∧ mnL (xsL l) ≤ mxL (xsL l) ∧ mxL (xsL l) ≤ B ∧ -B ≤ mnL (ysL l) ∧ mnL (ysL l) ≤ mxL (ysL l) ∧ mxL (ysL l) ≤ B := by
  have n1 : xsL l ≠ [] := by unfold xsL; simpa using h0
  have n2 : ysL l ≠ [] := by unfold ysL; simpa using h0
  obtain ⟨p, hp, e1⟩ := List.mem_map.mp (mnL_mem n1)
  obtain ⟨q, hq, e2⟩ := List.mem_map.mp (mxL_mem n1)
  obtain ⟨p', hp', e3⟩ := List.mem_map.mp (mnL_mem n2)
  obtain ⟨q', hq', e4⟩ := List.mem_map.mp (mxL_mem n2)
  have b1 := hb p hp
  have b2 := hb q hq
  have b3 := hb p' hp'
  have b4 := hb q' hq'
  have c1 := mnL_le (mxL_mem n1)
  have c2 := mnL_le (mxL_mem n2)
  unfold Bd at b1 b2 b3 b4
  unfold xsL ysL at *
  omega
theorem box_of {l : List PG.Pt} {p : PG.Pt} (hp : p ∈ l) : GE.Box (mnL (xsL l)) (mnL (ysL l)) (wX l) (wY l) p := by
  have m1 : p.1 ∈ xsL l := List.mem_map_of_mem hp
  have m2 : p.2 ∈ ysL l := List.mem_map_of_mem hp
  have a1 := mnL_le m1
  have a2 := mxL_ge m1
  have a3 := mnL_le m2
  have a4 := mxL_ge m2
  unfold wX wY
  exact ⟨by omega, by omega, by omega, by omega⟩
theorem e_p_inner {d : D} {l : List PG.Pt} (hd : IsPs d l) (hb : AllB 100000 l) (h0 : l ≠ []) (hl : l.length < 1000) (hW : wX l < 1000) (hH : wY l < 1000) : m_p_inner_stakes [d] = .ok (.int (inner l)) := by
  have hbd := xs_bd hb h0
  have n1 : xsL l ≠ [] := by unfold xsL; simpa using h0
  have n2 : ysL l ≠ [] := by unfold ysL; simpa using h0
  have hx : cLc (cSrc (cVar 0)) [5] (tName 5) (cC (.bool true)) (c2 gIx (cVar 5) (cC (.int 0))) (vE [.val d, .val (.int 0), .non, .non, .non, .non, .non]) = .ok (.list ((xsL l).map .int)) := by
    unfold xsL; rw [List.map_map]
    exact cLc_map pt (xs := l) (fun p => (.int p.1 : D)) (src1 (d := d) rfl (src_ps hd)) (le_size hl) (fun p hp => ⟨_, rfl, c2_is rfl rfl (ix0 p)⟩)
  have hy : cLc (cSrc (cVar 0)) [5] (tName 5) (cC (.bool true)) (c2 gIx (cVar 5) (cC (.int 1))) (vE [.val d, .val (.int 0), .val (.list ((xsL l).map .int)), .non, .non, .non, .non]) = .ok (.list ((ysL l).map .int)) := by
    unfold ysL; rw [List.map_map]
    exact cLc_map pt (xs := l) (fun p => (.int p.2 : D)) (src1 (d := d) rfl (src_ps hd)) (le_size hl) (fun p hp => ⟨_, rfl, c2_is rfl rfl (ix1 p)⟩)
  have minx := gMin_ints n1
  have maxx := gMax_ints n1
  have miny := gMin_ints n2
  have maxy := gMax_ints n2
  have r1 := rng_int (a := mnL (xsL l)) (b := mxL (xsL l) + 1) (rngOk_of (by omega) (by omega)) (rngOk_of (by omega) (by omega))
  have r2 := rng_int (a := mnL (ysL l)) (b := mxL (ysL l) + 1) (rngOk_of (by omega) (by omega)) (rngOk_of (by omega) (by omega))
  have hb6 : AllB 1000000 l := hb.mono (by decide)
  have hbody : ∀ (x s : Int) (a b c : Sl), -1000000 ≤ x → x ≤ 1000000 → sAsg 1 (c2 gAdd (cVar 1) (cA gLen (aCons (cLc (fun ρ => ((aCons (cA gMin (aCons (cVar 3) aNil)) (aCons (c2 gAdd (cA gMax (aCons (cVar 3) aNil)) (cC (.int 1))) aNil)) ρ).bind rng2) [6] (tName 6) (c2 gEq (cA (pureS m_p_where) (aCons (cVar 0) (aCons (cA mkTup (aCons (cVar 4) (aCons (cVar 6) aNil))) aNil))) (cC (.str "in"))) (cVar 6)) aNil)))
      [.val d, .val (.int s), .val (.list ((xsL l).map .int)), .val (.list ((ysL l).map .int)), .val (.int x), b, c] = .nx [.val d, .val (.int (s + GE.S (wY l) (fun (j : Nat) => if innB l (x, mnL (ysL l) + (j : Int)) = true then 1 else 0))), .val (.list ((xsL l).map .int)), .val (.list ((ysL l).map .int)), .val (.int x), b, c] := by
    intro x s a b c hx1 hx2
    have hf := cLc_filter (cs := fun ρ => ((aCons (cA gMin (aCons (cVar 3) aNil)) (aCons (c2 gAdd (cA gMax (aCons (cVar 3) aNil)) (cC (.int 1))) aNil)) ρ).bind rng2) (vs := [6]) (t := tName 6) (cond := c2 gEq (cA (pureS m_p_where) (aCons (cVar 0) (aCons (cA mkTup (aCons (cVar 4) (aCons (cVar 6) aNil))) aNil))) (cC (.str "in"))) (elt := cVar 6)
      (ρ := vE [.val d, .val (.int s), .val (.list ((xsL l).map .int)), .val (.list ((ysL l).map .int)), .val (.int x), b, c]) (fun (j : Nat) => (.int (mnL (ysL l) + (j : Int)) : D)) (xs := List.range (wY l)) (fun (j : Nat) => innB l (x, mnL (ysL l) + (j : Int))) (fun (j : Nat) => .int (mnL (ysL l) + (j : Int)))
      ((at2 (fn1 rfl miny) (c2_is (fn1 rfl maxy) rfl (gAdd_int _ _))).trans r2) (by rw [List.length_range]; exact le_size (by omega)) (by
        intro j hj
        have hj := List.mem_range.mp hj
        unfold wY at hj
        refine ⟨_, rfl, c2_is (call2 (y := pt (x, mnL (ysL l) + (j : Int))) rfl (fn2 rfl rfl (mk_pt _ _)) (e_p_where hd hb6 hl ?_)) rfl (gEq_in l _), fun _ => rfl⟩
        exact Bd_of (by omega) (by omega) (by omega) (by omega))
    have hlen : gLen [.list (((List.range (wY l)).filter fun (j : Nat) => innB l (x, mnL (ysL l) + (j : Int))).map fun (j : Nat) => (.int (mnL (ysL l) + (j : Int)) : D))] = .ok (.int (GE.S (wY l) (fun (j : Nat) => if innB l (x, mnL (ysL l) + (j : Int)) = true then 1 else 0))) := by
      rw [len_list, List.length_map, filter_sum]; rfl
    exact sAsg_ok (c2_is rfl (fn1 hf hlen) (gAdd_int _ _))
  have hloop := forL_acc (fun (i : Nat) => (.int (mnL (xsL l) + (i : Int)) : D)) (sName 4) _ (fun (s : Int) (σ : SE) => ∃ a b c, σ = [.val d, .val (.int s), .val (.list ((xsL l).map .int)), .val (.list ((ysL l).map .int)), a, b, c])
    (fun s i => s + GE.S (wY l) (fun (j : Nat) => if innB l (mnL (xsL l) + (i : Int), mnL (ysL l) + (j : Int)) = true then 1 else 0)) (List.range (wX l)) 0 [.val d, .val (.int 0), .val (.list ((xsL l).map .int)), .val (.list ((ysL l).map .int)), .non, .non, .non] ⟨_, _, _, rfl⟩ (by
      rintro s i hi σ ⟨a, b, c, rfl⟩
      have hi := List.mem_range.mp hi
      unfold wX at hi
      exact ⟨_, rfl, _, hbody _ s a b c (by omega) (by omega), _, _, _, rfl⟩)
  obtain ⟨σ', h1, a, b, c, h2⟩ := hloop
  subst h2
  rw [foldl_sum] at h1
  unfold m_p_inner_stakes b_p_inner_stakes
  rw [runP_eq, sSeq_eq, show sAsg 1 (cC (.int 0)) (iniS 7 [d]) = .nx [.val d, .val (.int 0), .non, .non, .non, .non, .non] from rfl, sq_nx, sSeq_eq,
    show sAsg 2 _ [.val d, .val (.int 0), .non, .non, .non, .non, .non] = .nx [.val d, .val (.int 0), .val (.list ((xsL l).map .int)), .non, .non, .non, .non] from sAsg_ok hx, sq_nx, sSeq_eq,
    show sAsg 3 _ [.val d, .val (.int 0), .val (.list ((xsL l).map .int)), .non, .non, .non, .non] = .nx [.val d, .val (.int 0), .val (.list ((xsL l).map .int)), .val (.list ((ysL l).map .int)), .non, .non, .non] from sAsg_ok hy, sq_nx, sSeq_eq,
    sFor_ok (ds := (List.range (wX l)).map fun (i : Nat) => .int (mnL (xsL l) + (i : Int))) ((at2 (fn1 rfl minx) (c2_is (fn1 rfl maxx) rfl (gAdd_int _ _))).trans r1), h1, sq_nx]
  show R.ok (PyData.int (0 + _)) = _
  rw [Int.zero_add]
  rfl
end PL

set_option Elab.async false
set_option linter.all false
set_option maxRecDepth 100000
set_option maxHeartbeats 1000000
/-! PN22: the spots within by the winding; law k20. -/
namespace PL
open PySem L2 PG
theorem side_cr {a b q : PG.Pt} (ho : ¬ GE.On a b q) : (sideX a b q = true ∧ (GE.cr a b q = 1 ∨ GE.cr a b q = -1)) ∨ (sideX a b q = false ∧ GE.cr a b q = 0) := by
  have z1 : turn a b q = 0 → a.2 < b.2 → ¬ (a.2 ≤ q.2 ∧ q.2 < b.2) := fun h0 h1 h => ho ((GE.On_iff _ _ _).mp (on_of h0 h1 h.1 h.2))
  have z2 : turn a b q = 0 → b.2 < a.2 → ¬ (b.2 ≤ q.2 ∧ q.2 < a.2) := fun h0 h1 h => ho ((GE.On_iff _ _ _).mp (on_of (by rw [GE.turn_swap, h0]; rfl) h1 h.1 h.2)).comm
  unfold sideX GE.cr
  by_cases h1 : a.2 ≤ q.2 <;> by_cases h2 : b.2 ≤ q.2 <;> by_cases h3 : 0 < turn a b q <;> by_cases h4 : a.2 < b.2 <;> simp [h1, h2, h3, h4] <;> (try omega)
theorem parity_E (q : PG.Pt) : ∀ (S : List GE.Ed) (k : Bool), (∀ e ∈ S, ¬ GE.On e.1 e.2 q) →
    S.foldl (fun k e => if sideX e.1 e.2 q then !k else k) k = decide ((GE.wE S q + (if k = true then 1 else 0)) % 2 = 1)
  | [], k, _ => by cases k <;> rfl
  | e :: S, k, h => by
    rw [List.foldl_cons, parity_E q S _ fun f hf => h f (List.mem_cons_of_mem _ hf), GE.wE_cons]
    rcases side_cr (h e List.mem_cons_self) with ⟨h1, h2⟩ | ⟨h1, h2⟩
    · rw [h1]
      apply decide_eq_decide.mpr
      cases k <;> simp <;> omega
    · rw [h1, h2]
      apply decide_eq_decide.mpr
      cases k <;> simp
theorem parity_wi {l : List PG.Pt} {q : PG.Pt} (h : GE.Offl l q) : parity l q = decide (GE.wi l q % 2 = 1) := by
  have e : parity l q = (GE.E l).foldl (fun k e => if sideX e.1 e.2 q then !k else k) false := by
    unfold parity
    rw [GE.E_range, List.foldl_map]
  rw [e, parity_E q _ _ h]
  apply decide_eq_decide.mpr
  unfold GE.wi
  simp
theorem anyOn_E (l : List PG.Pt) (q : PG.Pt) : anyOn l q = (GE.E l).any fun e => onB e.1 e.2 q := by
  unfold anyOn
  rw [GE.E_range, List.any_map]; rfl
theorem anyOn_cnt (l : List PG.Pt) (q : PG.Pt) : anyOn l q = false ↔ GE.cnt (GE.E l) q = 0 := by
  rw [anyOn_E]
  constructor
  · intro h
    apply GE.cnt_zero
    intro e he ho
    have := List.any_eq_false.mp h e he
    exact this ((GE.On_iff _ _ _).mpr ho)
  · intro h
    apply List.any_eq_false.mpr
    intro e he ho
    exact GE.cnt_offl h e he ((GE.On_iff _ _ _).mp ho)
theorem innB_inn {l : List PG.Pt} (h : GE.Ccw l) (q : PG.Pt) : (if innB l q = true then (1 : Int) else 0) = GE.inn l q := by
  unfold innB GE.inn
  cases ha : anyOn l q with
  | true =>
    have : ¬ GE.cnt (GE.E l) q = 0 := by
      intro h0
      rw [(anyOn_cnt l q).mpr h0] at ha; cases ha
    rw [if_neg (by simp), if_neg (fun k => this k.1)]
  | false =>
    have h0 := (anyOn_cnt l q).mp ha
    have ho := GE.cnt_offl h0
    rw [parity_wi ho]
    rcases h.s01 q ho with k | k
    · rw [k, if_neg (by simp), if_neg (by omega)]
    · rw [k, if_pos (by simp), if_pos ⟨h0, rfl⟩]
theorem inner_pick {l : List PG.Pt} (h : GE.Ccw l) : area l = 2 * inner l + GE.fence l - 2 := by
  rw [GE.area_ar, GE.fence_fe, GE.pick h (fun p hp => box_of hp)]
  have : GE.Bx (mnL (xsL l)) (mnL (ysL l)) (wX l) (wY l) (GE.inn l) = inner l :=
    GE.Bx_congr fun q _ _ _ _ => (innB_inn h q).symm
  rw [this]
theorem inner_bd (l : List PG.Pt) : 0 ≤ inner l ∧ inner l ≤ wX l * wY l := by
  unfold inner
  apply GE.Bx_bounds
  intro q; split <;> omega
theorem w_bd {l : List PG.Pt} {a b c e : Int} (h0 : l ≠ []) (h : ∀ p ∈ l, a ≤ p.1 ∧ p.1 ≤ b ∧ c ≤ p.2 ∧ p.2 ≤ e) : (wX l : Int) ≤ b + 1 - a ∧ (wY l : Int) ≤ e + 1 - c := by
  have n1 : xsL l ≠ [] := by unfold xsL; simpa using h0
  have n2 : ysL l ≠ [] := by unfold ysL; simpa using h0
  obtain ⟨p, hp, e1⟩ := List.mem_map.mp (mnL_mem n1)
  obtain ⟨q, hq, e2⟩ := List.mem_map.mp (mxL_mem n1)
  obtain ⟨p', hp', e3⟩ := List.mem_map.mp (mnL_mem n2)
  obtain ⟨q', hq', e4⟩ := List.mem_map.mp (mxL_mem n2)
  have b1 := h p hp
  have b2 := h q hq
  have b3 := h p' hp'
  have b4 := h q' hq'
  unfold wX wY
  unfold xsL ysL at *
  omega
theorem law20_true (ns : List Int) : m_l_law_k20 [intsD ns] = .ok (.bool true) := by
  have nn1 := mixed_nn ns 1
  obtain ⟨w, hw, hw1, hw2⟩ : ∃ w : Int, 3 + mixed ns 1 % 5 = w ∧ 3 ≤ w ∧ w ≤ 7 := ⟨_, rfl, by omega, by omega⟩
  obtain ⟨far, hfar, hfb⟩ : ∃ far : Int, mixed ns 1 / 5 % 2 = far ∧ (far = 0 ∨ far = 1) := ⟨_, rfl, by omega⟩
  have hp := e_plot (mixed ns 0) w (by omega) (by omega)
  have hpb := plot_bd (mixed ns 0) w (by omega) (by omega)
  have hcc := GE.Ccw_plot (mixed ns 0) w (by omega)
  obtain ⟨cx, hcx1, hcx2, hsm⟩ := GE.plot_small (mixed ns 0) w (by omega)
  have m0 := e_mixed ns 0
  have m1 := e_mixed ns 1
  have m2 := e_mixed ns 2
  have m3 := e_mixed ns 3
  obtain ⟨bx, hbx, hbx1, hbx2⟩ : ∃ bx : Int, far * (mixed ns 2 % 973 - 486) = bx ∧ -486 ≤ bx ∧ bx ≤ 486 := by
    refine ⟨_, rfl, ?_⟩
    rcases hfb with h | h <;> rw [h] <;> omega
  obtain ⟨bY, hby, hby1, hby2⟩ : ∃ bY : Int, far * (mixed ns 3 % 973 - 486) = bY ∧ -486 ≤ bY ∧ bY ≤ 486 := by
    refine ⟨_, rfl, ?_⟩
    rcases hfb with h | h <;> rw [h] <;> omega
  generalize hK : plot (mixed ns 0) w = K at *
  generalize hlK : (K.map fun p => ((p.1 + bx, p.2 + bY) : PG.Pt)) = l at *
  have hc : GE.Ccw l := by rw [← hlK]; exact hcc.move bx bY
  have h0 : l ≠ [] := by
    intro e
    have := hc.simp.len
    rw [e] at this; simp at this
  have hlen : l.length ≤ 12 := by rw [← hlK, List.length_map]; exact hpb.2.1
  have hd : IsPs (.tuple (l.map pt)) l := .inr rfl
  have hB : AllB 10000 l := by
    intro p hp
    rw [← hlK] at hp
    obtain ⟨q, hq, e⟩ := List.mem_map.mp hp
    have := hpb.1 q hq
    rw [← e]
    unfold Bd at this
    exact Bd_of (by omega) (by omega) (by omega) (by omega)
  have hb6 : AllB 1000000 l := hB.mono (by decide)
  have hb5 : AllB 100000 l := hB.mono (by decide)
  have hwd := w_bd (l := l) (a := cx + bx) (b := cx + 6 + bx) (c := -7 + bY) (e := 7 + bY) h0 (by
    intro p hp
    rw [← hlK] at hp
    obtain ⟨q, hq, e⟩ := List.mem_map.mp hp
    have := hsm q hq
    rw [← e]; simp only; omega)
  have hW : wX l ≤ 7 := by omega
  have hH : wY l ≤ 15 := by omega
  have hin := inner_bd l
  have hin2 : (wX l : Int) * wY l ≤ 7 * 15 := by
    have h1 := Int.mul_le_mul_of_nonneg_right (show (wX l : Int) ≤ 7 by omega) (show (0 : Int) ≤ wY l by omega)
    omega
  have hpick := inner_pick hc
  have eI := e_p_inner hd hb5 h0 (by omega) (by omega) (by omega)
  have eA := e_p_twice hd hb6 (by omega)
  have eF := e_p_fence hd hB (by omega)
  have hbd := xs_bd hB h0
  have n1 : xsL l ≠ [] := by unfold xsL; simpa using h0
  have n2 : ysL l ≠ [] := by unfold ysL; simpa using h0
  have minx := gMin_ints n1
  have maxx := gMax_ints n1
  have miny := gMin_ints n2
  have maxy := gMax_ints n2
  have r1 := rng_int (a := mnL (xsL l)) (b := mxL (xsL l) + 1) (rngOk_of (by omega) (by omega)) (rngOk_of (by omega) (by omega))
  have r2 := rng_int (a := mnL (ysL l)) (b := mxL (ysL l) + 1) (rngOk_of (by omega) (by omega)) (rngOk_of (by omega) (by omega))
  have num := e_l_num (inner l) 0 1000
  rw [decide_eq_true (by omega), decide_eq_true (by omega)] at num
  have mod5 : gMod (.int (mixed ns 1)) (.int 5) = .ok (.int (mixed ns 1 % 5)) := gMod_int (by decide)
  have div5 : gDiv (.int (mixed ns 1)) (.int 5) = .ok (.int (mixed ns 1 / 5)) := gDiv_int (by decide)
  have mod2 : gMod (.int (mixed ns 1 / 5)) (.int 2) = .ok (.int (mixed ns 1 / 5 % 2)) := gMod_int (by decide)
  have m973a : gMod (.int (mixed ns 2)) (.int 973) = .ok (.int (mixed ns 2 % 973)) := gMod_int (by decide)
  have m973b : gMod (.int (mixed ns 3)) (.int 973) = .ok (.int (mixed ns 3 % 973)) := gMod_int (by decide)
  have mulx : gMul (.int far) (.int (mixed ns 2 % 973 - 486)) = .ok (.int bx) := by rw [← hbx]; exact gMul_int (mulB (by omega) (by omega))
  have muly : gMul (.int far) (.int (mixed ns 3 % 973 - 486)) = .ok (.int bY) := by rw [← hby]; exact gMul_int (mulB (by omega) (by omega))
  unfold m_l_law_k20 b_l_law_k20
  rw [runP_eq, sSeq_eq, show sAsg 1 (cA (pureS m_l_plot) (aCons (cA (pureS m_l_mixed) (aCons (cVar 0) (aCons (cC (.int 0)) aNil))) (aCons (c2 gAdd (cC (.int 3)) (c2 gMod (cA (pureS m_l_mixed) (aCons (cVar 0) (aCons (cC (.int 1)) aNil))) (cC (.int 5)))) aNil))) (iniS 11 [intsD ns]) = .nx [.val (intsD ns), .val (.tuple (K.map pt)), .non, .non, .non, .non, .non, .non, .non, .non, .non] from
      sAsg_ok (call2 (call2 rfl rfl m0) (c2_is rfl (c2_is (call2 rfl rfl m1) rfl mod5) (by rw [gAdd_int, hw])) hp), sq_nx, sSeq_eq,
    show sAsg 2 (c2 gMod (c2 gDiv (cA (pureS m_l_mixed) (aCons (cVar 0) (aCons (cC (.int 1)) aNil))) (cC (.int 5))) (cC (.int 2))) [.val (intsD ns), .val (.tuple (K.map pt)), .non, .non, .non, .non, .non, .non, .non, .non, .non] = .nx [.val (intsD ns), .val (.tuple (K.map pt)), .val (.int far), .non, .non, .non, .non, .non, .non, .non, .non] from
      sAsg_ok (c2_is (c2_is (call2 rfl rfl m1) rfl div5) rfl (by rw [mod2, hfar])), sq_nx, sSeq_eq,
    show sAsg 3 (cA mkTup (aCons (c2 gMul (cVar 2) (c2 gSub (c2 gMod (cA (pureS m_l_mixed) (aCons (cVar 0) (aCons (cC (.int 2)) aNil))) (cC (.int 973))) (cC (.int 486)))) (aCons (c2 gMul (cVar 2) (c2 gSub (c2 gMod (cA (pureS m_l_mixed) (aCons (cVar 0) (aCons (cC (.int 3)) aNil))) (cC (.int 973))) (cC (.int 486)))) aNil))) [.val (intsD ns), .val (.tuple (K.map pt)), .val (.int far), .non, .non, .non, .non, .non, .non, .non, .non] = .nx [.val (intsD ns), .val (.tuple (K.map pt)), .val (.int far), .val (pt (bx, bY)), .non, .non, .non, .non, .non, .non, .non] from
      sAsg_ok (fn2 (c2_is rfl (c2_is (c2_is (call2 rfl rfl m2) rfl m973a) rfl (gSub_int _ _)) mulx) (c2_is rfl (c2_is (c2_is (call2 rfl rfl m3) rfl m973b) rfl (gSub_int _ _)) muly) (mk_pt _ _)), sq_nx, sSeq_eq]
  have hmv : cLc (cSrc (cVar 1)) [8, 9] (tPair 8 9) (cC (.bool true)) (cA mkTup (aCons (c2 gAdd (cVar 8) (c2 gIx (cVar 3) (cC (.int 0)))) (aCons (c2 gAdd (cVar 9) (c2 gIx (cVar 3) (cC (.int 1)))) aNil))) (vE [.val (intsD ns), .val (.tuple (K.map pt)), .val (.int far), .val (pt (bx, bY)), .non, .non, .non, .non, .non, .non, .non]) = .ok (.list (l.map pt)) := by
    rw [← hlK, List.map_map]
    exact cLc_map pt (xs := K) (fun p => pt (p.1 + bx, p.2 + bY)) (src1 (d := .tuple (K.map pt)) rfl rfl) (le_size (by omega)) (fun p hp => ⟨_, rfl, fn2 (c2_is rfl (c2_is rfl rfl (ix0 (bx, bY))) (gAdd_int _ _)) (c2_is rfl (c2_is rfl rfl (ix1 (bx, bY))) (gAdd_int _ _)) (mk_pt _ _)⟩)
  rw [show sAsg 1 _ [.val (intsD ns), .val (.tuple (K.map pt)), .val (.int far), .val (pt (bx, bY)), .non, .non, .non, .non, .non, .non, .non] = .nx [.val (intsD ns), .val (.tuple (l.map pt)), .val (.int far), .val (pt (bx, bY)), .non, .non, .non, .non, .non, .non, .non] from sAsg_ok (fn1 hmv (tuple_ps (.inl rfl))), sq_nx, sSeq_eq,
    show sAsg 4 (cA (pureS m_p_inner_stakes) (aCons (cVar 1) aNil)) [.val (intsD ns), .val (.tuple (l.map pt)), .val (.int far), .val (pt (bx, bY)), .non, .non, .non, .non, .non, .non, .non] = .nx [.val (intsD ns), .val (.tuple (l.map pt)), .val (.int far), .val (pt (bx, bY)), .val (.int (inner l)), .non, .non, .non, .non, .non, .non] from sAsg_ok (call1 rfl eI), sq_nx, sSeq_eq]
  have hif : sIf (cOr (cNot (cA (pureS m_l_number) (aCons (cVar 4) (aCons (cC (.int 0)) (aCons (cC (.int 1000)) aNil))))) (c2 gNe (cA (pureS m_p_twice_area) (aCons (cVar 1) aNil)) (c2 gSub (c2 gAdd (c2 gMul (cC (.int 2)) (cVar 4)) (cA (pureS m_p_fence_stakes) (aCons (cVar 1) aNil))) (cC (.int 2))))) (sRet (cC (.bool false))) sNext
      [.val (intsD ns), .val (.tuple (l.map pt)), .val (.int far), .val (pt (bx, bY)), .val (.int (inner l)), .non, .non, .non, .non, .non, .non] = .nx [.val (intsD ns), .val (.tuple (l.map pt)), .val (.int far), .val (pt (bx, bY)), .val (.int (inner l)), .non, .non, .non, .non, .non, .non] := by
    rw [sIf_eq]
    have hcond : (cOr (cNot (cA (pureS m_l_number) (aCons (cVar 4) (aCons (cC (.int 0)) (aCons (cC (.int 1000)) aNil))))) (c2 gNe (cA (pureS m_p_twice_area) (aCons (cVar 1) aNil)) (c2 gSub (c2 gAdd (c2 gMul (cC (.int 2)) (cVar 4)) (cA (pureS m_p_fence_stakes) (aCons (cVar 1) aNil))) (cC (.int 2))))) (fE [.val (intsD ns), .val (.tuple (l.map pt)), .val (.int far), .val (pt (bx, bY)), .val (.int (inner l)), .non, .non, .non, .non, .non, .non]) = .ok (.bool false) := by
      unfold cOr
      rw [show cNot (cA (pureS m_l_number) (aCons (cVar 4) (aCons (cC (.int 0)) (aCons (cC (.int 1000)) aNil)))) (fE [.val (intsD ns), .val (.tuple (l.map pt)), .val (.int far), .val (pt (bx, bY)), .val (.int (inner l)), .non, .non, .non, .non, .non, .non]) = .ok (.bool false) from c1_is (call3 rfl rfl rfl num) rfl, bok, or_f]
      exact c2_is (call1 rfl eA) (c2_is (c2_is (c2_is rfl rfl (gMul_int (c2' _))) (call1 rfl eF) (gAdd_int _ _)) rfl (gSub_int _ _)) (by rw [gNe_int, hpick, decide_eq_true rfl]; rfl)
    rw [hcond, brB_ok]; rfl
  rw [hif, sq_nx, sSeq_eq]
  have hx : cLc (cSrc (cVar 1)) [10] (tName 10) (cC (.bool true)) (c2 gIx (cVar 10) (cC (.int 0))) (vE [.val (intsD ns), .val (.tuple (l.map pt)), .val (.int far), .val (pt (bx, bY)), .val (.int (inner l)), .non, .non, .non, .non, .non, .non]) = .ok (.list ((xsL l).map .int)) := by
    unfold xsL; rw [List.map_map]
    exact cLc_map pt (xs := l) (fun p => (.int p.1 : D)) (src1 (d := .tuple (l.map pt)) rfl rfl) (le_size (by omega)) (fun p hp => ⟨_, rfl, c2_is rfl rfl (ix0 p)⟩)
  have hy : cLc (cSrc (cVar 1)) [10] (tName 10) (cC (.bool true)) (c2 gIx (cVar 10) (cC (.int 1))) (vE [.val (intsD ns), .val (.tuple (l.map pt)), .val (.int far), .val (pt (bx, bY)), .val (.int (inner l)), .val (.list ((xsL l).map .int)), .non, .non, .non, .non, .non]) = .ok (.list ((ysL l).map .int)) := by
    unfold ysL; rw [List.map_map]
    exact cLc_map pt (xs := l) (fun p => (.int p.2 : D)) (src1 (d := .tuple (l.map pt)) rfl rfl) (le_size (by omega)) (fun p hp => ⟨_, rfl, c2_is rfl rfl (ix1 p)⟩)
  rw [show sAsg 5 _ [.val (intsD ns), .val (.tuple (l.map pt)), .val (.int far), .val (pt (bx, bY)), .val (.int (inner l)), .non, .non, .non, .non, .non, .non] = .nx [.val (intsD ns), .val (.tuple (l.map pt)), .val (.int far), .val (pt (bx, bY)), .val (.int (inner l)), .val (.list ((xsL l).map .int)), .non, .non, .non, .non, .non] from sAsg_ok hx, sq_nx, sSeq_eq,
    show sAsg 6 _ [.val (intsD ns), .val (.tuple (l.map pt)), .val (.int far), .val (pt (bx, bY)), .val (.int (inner l)), .val (.list ((xsL l).map .int)), .non, .non, .non, .non, .non] = .nx [.val (intsD ns), .val (.tuple (l.map pt)), .val (.int far), .val (pt (bx, bY)), .val (.int (inner l)), .val (.list ((xsL l).map .int)), .val (.list ((ysL l).map .int)), .non, .non, .non, .non] from sAsg_ok hy, sq_nx, sSeq_eq,
    show sAsg 7 (cC (.int 0)) [.val (intsD ns), .val (.tuple (l.map pt)), .val (.int far), .val (pt (bx, bY)), .val (.int (inner l)), .val (.list ((xsL l).map .int)), .val (.list ((ysL l).map .int)), .non, .non, .non, .non] = .nx [.val (intsD ns), .val (.tuple (l.map pt)), .val (.int far), .val (pt (bx, bY)), .val (.int (inner l)), .val (.list ((xsL l).map .int)), .val (.list ((ysL l).map .int)), .val (.int 0), .non, .non, .non] from rfl, sq_nx, sSeq_eq]
  have hbody : ∀ (x s : Int) (a b : Sl), -1000000 ≤ x → x ≤ 1000000 → sAsg 7 (c2 gAdd (cVar 7) (cA gLen (aCons (cLc (fun ρ => ((aCons (cA gMin (aCons (cVar 6) aNil)) (aCons (c2 gAdd (cA gMax (aCons (cVar 6) aNil)) (cC (.int 1))) aNil)) ρ).bind rng2) [9] (tName 9) (c2 gEq (cA (pureS m_l_where) (aCons (cVar 1) (aCons (cA mkTup (aCons (cVar 8) (aCons (cVar 9) aNil))) aNil))) (cC (.str "in"))) (cVar 9)) aNil)))
      [.val (intsD ns), .val (.tuple (l.map pt)), .val (.int far), .val (pt (bx, bY)), .val (.int (inner l)), .val (.list ((xsL l).map .int)), .val (.list ((ysL l).map .int)), .val (.int s), .val (.int x), a, b] = .nx [.val (intsD ns), .val (.tuple (l.map pt)), .val (.int far), .val (pt (bx, bY)), .val (.int (inner l)), .val (.list ((xsL l).map .int)), .val (.list ((ysL l).map .int)), .val (.int (s + GE.S (wY l) (fun (j : Nat) => if innB l (x, mnL (ysL l) + (j : Int)) = true then 1 else 0))), .val (.int x), a, b] := by
    intro x s a b hx1 hx2
    have hf := cLc_filter (cs := fun ρ => ((aCons (cA gMin (aCons (cVar 6) aNil)) (aCons (c2 gAdd (cA gMax (aCons (cVar 6) aNil)) (cC (.int 1))) aNil)) ρ).bind rng2) (vs := [9]) (t := tName 9) (cond := c2 gEq (cA (pureS m_l_where) (aCons (cVar 1) (aCons (cA mkTup (aCons (cVar 8) (aCons (cVar 9) aNil))) aNil))) (cC (.str "in"))) (elt := cVar 9)
      (ρ := vE [.val (intsD ns), .val (.tuple (l.map pt)), .val (.int far), .val (pt (bx, bY)), .val (.int (inner l)), .val (.list ((xsL l).map .int)), .val (.list ((ysL l).map .int)), .val (.int s), .val (.int x), a, b]) (fun (j : Nat) => (.int (mnL (ysL l) + (j : Int)) : D)) (xs := List.range (wY l)) (fun (j : Nat) => innB l (x, mnL (ysL l) + (j : Int))) (fun (j : Nat) => .int (mnL (ysL l) + (j : Int)))
      ((at2 (fn1 rfl miny) (c2_is (fn1 rfl maxy) rfl (gAdd_int _ _))).trans r2) (by rw [List.length_range]; exact le_size (by omega)) (by
        intro j hj
        have hj := List.mem_range.mp hj
        refine ⟨_, rfl, c2_is (call2 (y := pt (x, mnL (ysL l) + (j : Int))) rfl (fn2 rfl rfl (mk_pt _ _)) (e_l_where hd hb6 ?_)) rfl (gEq_in l _), fun _ => rfl⟩
        exact Bd_of (by omega) (by omega) (by omega) (by omega))
    have hlen : gLen [.list (((List.range (wY l)).filter fun (j : Nat) => innB l (x, mnL (ysL l) + (j : Int))).map fun (j : Nat) => (.int (mnL (ysL l) + (j : Int)) : D))] = .ok (.int (GE.S (wY l) (fun (j : Nat) => if innB l (x, mnL (ysL l) + (j : Int)) = true then 1 else 0))) := by
      rw [len_list, List.length_map, filter_sum]; rfl
    exact sAsg_ok (c2_is rfl (fn1 hf hlen) (gAdd_int _ _))
  have hloop := forL_acc (fun (i : Nat) => (.int (mnL (xsL l) + (i : Int)) : D)) (sName 8) _ (fun (s : Int) (σ : SE) => ∃ a b c, σ = [.val (intsD ns), .val (.tuple (l.map pt)), .val (.int far), .val (pt (bx, bY)), .val (.int (inner l)), .val (.list ((xsL l).map .int)), .val (.list ((ysL l).map .int)), .val (.int s), a, b, c])
    (fun s (i : Nat) => s + GE.S (wY l) (fun (j : Nat) => if innB l (mnL (xsL l) + (i : Int), mnL (ysL l) + (j : Int)) = true then 1 else 0)) (List.range (wX l)) 0 [.val (intsD ns), .val (.tuple (l.map pt)), .val (.int far), .val (pt (bx, bY)), .val (.int (inner l)), .val (.list ((xsL l).map .int)), .val (.list ((ysL l).map .int)), .val (.int 0), .non, .non, .non] ⟨_, _, _, rfl⟩ (by
      rintro s i hi σ ⟨a, b, c, rfl⟩
      have hi := List.mem_range.mp hi
      exact ⟨_, rfl, _, hbody _ s b c (by omega) (by omega), _, _, _, rfl⟩)
  obtain ⟨σ', h1, a, b, c, h2⟩ := hloop
  subst h2
  rw [foldl_sum] at h1
  rw [sFor_ok (ds := (List.range (wX l)).map fun (i : Nat) => .int (mnL (xsL l) + (i : Int))) ((at2 (fn1 rfl minx) (c2_is (fn1 rfl maxx) rfl (gAdd_int _ _))).trans r1), h1, sq_nx]
  have hfin : (c2 gEq (cVar 4) (cVar 7)) (fE [.val (intsD ns), .val (.tuple (l.map pt)), .val (.int far), .val (pt (bx, bY)), .val (.int (inner l)), .val (.list ((xsL l).map .int)), .val (.list ((ysL l).map .int)), .val (.int (0 + ((List.range (wX l)).map fun (i : Nat) => GE.S (wY l) (fun (j : Nat) => if innB l (mnL (xsL l) + (i : Int), mnL (ysL l) + (j : Int)) = true then 1 else 0)).sum)), a, b, c]) = .ok (.bool true) := by
    refine c2_is rfl rfl ?_
    rw [gEq_int, Int.zero_add, decide_eq_true]
    rfl
  exact congrArg unr (sRet_ok hfin)
end PL

set_option Elab.async false
set_option linter.all false
set_option maxRecDepth 100000
set_option maxHeartbeats 1000000
/-! PN51: grown; law k51. -/
namespace PL
open PySem L2 PG
theorem AllB.inOrder {B : Int} {l : List PG.Pt} (h : AllB B l) : AllB B (inOrder l) := fun p hp => h p (GE.mem_inOrder.mp hp)
theorem map_bd {B C : Int} {l : List PG.Pt} {f : PG.Pt → PG.Pt} (h : AllB B l) (hf : ∀ p, Bd B p → Bd C (f p)) : AllB C (l.map f) := by
  intro p hp
  obtain ⟨q, hq, e⟩ := List.mem_map.mp hp
  rw [← e]; exact hf q (h q hq)
theorem sc_bd {B t : Int} (ht0 : 0 ≤ t) (ht : t ≤ 5) {p : PG.Pt} (h : Bd B p) : Bd (5 * B) (GE.sc t p) := by
  unfold Bd GE.sc at *
  have h1 := GE.mul_box (a := t) (b := p.1) (X := 5) (Y := B) (by omega) ht (by omega) (by omega)
  have h2 := GE.mul_box (a := t) (b := p.2) (X := 5) (Y := B) (by omega) ht (by omega) (by omega)
  exact ⟨h1.1, h1.2, h2.1, h2.2⟩
theorem plot_near (n w : Int) (hw : 0 < w) : AllB (w + 6) (plot n w) := by
  obtain ⟨cx, h1, h2, h3⟩ := GE.plot_small n w hw
  intro p hp
  have := h3 p hp
  unfold Bd
  omega
theorem w_of {B : Int} {l : List PG.Pt} (hb : AllB B l) (h0 : l ≠ []) : (wX l : Int) ≤ 2 * B + 1 ∧ (wY l : Int) ≤ 2 * B + 1 := by
  have := w_bd (l := l) (a := -B) (b := B) (c := -B) (e := B) h0 (fun p hp => by have := hb p hp; unfold Bd at this; omega)
  omega
theorem e_p_grown {d : D} {l : List PG.Pt} {t : Int} (hd : IsPs d l) (ht0 : 0 ≤ t) (ht : t ≤ 5) (hb : AllB 1000 l) (h0 : l ≠ []) (hl : l.length < 900) :
    m_p_grown [d, .int t] = .ok (.tuple ((inOrder (l.map (GE.sc t))).map pt)) := by
  have hb2 : AllB 1000000 (l.map (GE.sc t)) := (map_bd hb fun p h => sc_bd ht0 ht h).mono (by decide)
  have hio := e_p_in_order (.inl rfl : IsPs (.list ((l.map (GE.sc t)).map pt)) _) hb2 (by simpa using h0) (by rw [List.length_map]; omega)
  unfold m_p_grown b_p_grown
  rw [runP_eq]
  refine congrArg unr (sRet_ok (d := .tuple ((inOrder (l.map (GE.sc t))).map pt)) (call1 ?_ hio)) |>.trans rfl
  rw [List.map_map]
  exact cLc_map pt (xs := l) (fun p => pt (t * p.1, t * p.2)) (src1 (d := d) rfl (src_ps hd)) (le_size (by omega)) (fun p hp => ⟨_, rfl, fn2 (c2_is rfl rfl (gMul_int (mulB (by omega) (by omega)))) (c2_is rfl rfl (gMul_int (mulB (by omega) (by omega)))) (mk_pt _ _)⟩)
theorem law51_true (ns : List Int) : m_l_law_k51 [intsD ns] = .ok (.bool true) := by
  have nn1 := mixed_nn ns 1
  obtain ⟨w, hw, hw1, hw2⟩ : ∃ w : Int, gIx (.tuple [.int 4, .int 4, .int 9, .int 100]) (.int (mixed ns 1 / 5 % 4)) = .ok (.int w) ∧ 4 ≤ w ∧ (w ≤ 9 ∨ w = 100) := by
    have : mixed ns 1 / 5 % 4 = 0 ∨ mixed ns 1 / 5 % 4 = 1 ∨ mixed ns 1 / 5 % 4 = 2 ∨ mixed ns 1 / 5 % 4 = 3 := by omega
    rcases this with h | h | h | h <;> rw [h]
    · exact ⟨4, rfl, by decide, by decide⟩
    · exact ⟨4, rfl, by decide, by decide⟩
    · exact ⟨9, rfl, by decide, by decide⟩
    · exact ⟨100, rfl, by decide, by decide⟩
  obtain ⟨t, ht, ht1, ht5⟩ : ∃ t : Int, 1 + mixed ns 1 % 5 = t ∧ 1 ≤ t ∧ t ≤ 5 := ⟨_, rfl, by omega, by omega⟩
  have hp := e_plot (mixed ns 0) w (by omega) (by omega)
  have hpb := plot_bd (mixed ns 0) w (by omega) (by omega)
  have hcc := GE.Ccw_plot (mixed ns 0) w (by omega)
  have hnum := GE.plot_nums (mixed ns 0) w (by omega) (by omega)
  have hnear := plot_near (mixed ns 0) w (by omega)
  have m0 := e_mixed ns 0
  have m1 := e_mixed ns 1
  generalize plot (mixed ns 0) w = l at *
  have h0 : l ≠ [] := by
    intro e
    have := hcc.simp.len
    rw [e] at this; simp at this
  have hd : IsPs (.tuple (l.map pt)) l := .inr rfl
  have hb3 : AllB 1000 l := hnear.mono (by omega)
  have hb4 : AllB 10000 l := hb3.mono (by decide)
  have hb6 : AllB 1000000 l := hb3.mono (by decide)
  have hl := hpb.2.1
  have eG := e_p_grown hd (by omega) ht5 hb3 h0 (by omega)
  have hbm : AllB (5 * (w + 6)) (l.map (GE.sc t)) := map_bd hnear fun p h => sc_bd (by omega) ht5 h
  have hm0 : l.map (GE.sc t) ≠ [] := by simpa using h0
  have eL := e_in_order (.inl rfl : IsPs (.list ((l.map (GE.sc t)).map pt)) _) (hbm.mono (by omega)) hm0 (by rw [List.length_map]; omega)
  have hS := hcc.simp.sc (N := t) (by omega)
  have hcG := GE.Ccw_inOrder hS
  have hbG := hbm.inOrder
  have hlG := GE.len_inOrder (l.map (GE.sc t))
  rw [List.length_map] at hlG
  have hfG : GE.fe (inOrder (l.map (GE.sc t))) = t * GE.fe l := by rw [GE.fe_inOrder, GE.fe_sc (by omega)]
  have hpos : 0 < t * t * GE.ar l := Int.mul_pos (Int.mul_pos (by omega) (by omega)) hcc.pos
  have haG : GE.ar (inOrder (l.map (GE.sc t))) = t * t * GE.ar l := by rw [GE.ar_inOrder, GE.ar_sc, if_neg (by omega)]
  have hpick := inner_pick hcG
  rw [GE.area_ar, GE.fence_fe, haG, hfG] at hpick
  have eA := e_p_twice hd hb6 (by omega)
  have eF := e_p_fence hd hb4 (by omega)
  rw [GE.area_ar] at eA
  rw [GE.fence_fe] at eF
  have hGne : inOrder (l.map (GE.sc t)) ≠ [] := by
    intro e
    have := hcG.simp.len
    rw [e] at this; simp at this
  generalize hGG : inOrder (l.map (GE.sc t)) = G at *
  have hdG : IsPs (.tuple (G.map pt)) G := .inr rfl
  have eAG := e_p_twice hdG (hbG.mono (by omega)) (by omega)
  have eFG := e_p_fence hdG (hbG.mono (by omega)) (by omega)
  rw [GE.area_ar, haG] at eAG
  rw [GE.fence_fe, hfG] at eFG
  generalize GE.ar l = A at *
  generalize GE.fe l = F at *
  have div5 : gDiv (.int (mixed ns 1)) (.int 5) = .ok (.int (mixed ns 1 / 5)) := gDiv_int (by decide)
  have mod4 : gMod (.int (mixed ns 1 / 5)) (.int 4) = .ok (.int (mixed ns 1 / 5 % 4)) := gMod_int (by decide)
  have mod5 : gMod (.int (mixed ns 1)) (.int 5) = .ok (.int (mixed ns 1 % 5)) := gMod_int (by decide)
  unfold m_l_law_k51 b_l_law_k51
  rw [runP_eq, sSeq_eq, show sAsg 1 (c2 gIx (cA mkTup (aCons (cC (.int 4)) (aCons (cC (.int 4)) (aCons (cC (.int 9)) (aCons (cC (.int 100)) aNil))))) (c2 gMod (c2 gDiv (cA (pureS m_l_mixed) (aCons (cVar 0) (aCons (cC (.int 1)) aNil))) (cC (.int 5))) (cC (.int 4)))) (iniS 9 [intsD ns]) = .nx [.val (intsD ns), .val (.int w), .non, .non, .non, .non, .non, .non, .non] from
      sAsg_ok (c2_is (x := .tuple [.int 4, .int 4, .int 9, .int 100]) (fn4 rfl rfl rfl rfl (size4 _ _ _ _)) (c2_is (c2_is (call2 rfl rfl m1) rfl div5) rfl mod4) hw), sq_nx, sSeq_eq,
    show sAsg 2 (cA (pureS m_l_plot) (aCons (cA (pureS m_l_mixed) (aCons (cVar 0) (aCons (cC (.int 0)) aNil))) (aCons (cVar 1) aNil))) [.val (intsD ns), .val (.int w), .non, .non, .non, .non, .non, .non, .non] = .nx [.val (intsD ns), .val (.int w), .val (.tuple (l.map pt)), .non, .non, .non, .non, .non, .non] from
      sAsg_ok (call2 (call2 rfl rfl m0) rfl hp), sq_nx, sSeq_eq,
    show sAsg 3 (c2 gAdd (cC (.int 1)) (c2 gMod (cA (pureS m_l_mixed) (aCons (cVar 0) (aCons (cC (.int 1)) aNil))) (cC (.int 5)))) [.val (intsD ns), .val (.int w), .val (.tuple (l.map pt)), .non, .non, .non, .non, .non, .non] = .nx [.val (intsD ns), .val (.int w), .val (.tuple (l.map pt)), .val (.int t), .non, .non, .non, .non, .non] from
      sAsg_ok (c2_is rfl (c2_is (call2 rfl rfl m1) rfl mod5) (by rw [gAdd_int, ht])), sq_nx, sSeq_eq,
    show sAsg 4 (cA (pureS m_p_grown) (aCons (cVar 2) (aCons (cVar 3) aNil))) [.val (intsD ns), .val (.int w), .val (.tuple (l.map pt)), .val (.int t), .non, .non, .non, .non, .non] = .nx [.val (intsD ns), .val (.int w), .val (.tuple (l.map pt)), .val (.int t), .val (.tuple (G.map pt)), .non, .non, .non, .non] from
      sAsg_ok (call2 rfl rfl eG), sq_nx, sSeq_eq]
  have hif1 : sIf (c2 gNe (cVar 4) (cA (pureS m_l_in_order) (aCons (cLc (cSrc (cVar 2)) [7, 8] (tPair 7 8) (cC (.bool true)) (cA mkTup (aCons (c2 gMul (cVar 3) (cVar 7)) (aCons (c2 gMul (cVar 3) (cVar 8)) aNil)))) aNil))) (sRet (cC (.bool false))) sNext [.val (intsD ns), .val (.int w), .val (.tuple (l.map pt)), .val (.int t), .val (.tuple (G.map pt)), .non, .non, .non, .non] = .nx [.val (intsD ns), .val (.int w), .val (.tuple (l.map pt)), .val (.int t), .val (.tuple (G.map pt)), .non, .non, .non, .non] := by
    have hlc : cLc (cSrc (cVar 2)) [7, 8] (tPair 7 8) (cC (.bool true)) (cA mkTup (aCons (c2 gMul (cVar 3) (cVar 7)) (aCons (c2 gMul (cVar 3) (cVar 8)) aNil))) (fE [.val (intsD ns), .val (.int w), .val (.tuple (l.map pt)), .val (.int t), .val (.tuple (G.map pt)), .non, .non, .non, .non]) = .ok (.list ((l.map (GE.sc t)).map pt)) := by
      rw [List.map_map]
      exact cLc_map pt (xs := l) (fun p => pt (t * p.1, t * p.2)) (src1 (d := .tuple (l.map pt)) rfl rfl) (le_size (by omega)) (fun p hp => ⟨_, rfl, fn2 (c2_is rfl rfl (gMul_int (mulB (by omega) (by omega)))) (c2_is rfl rfl (gMul_int (mulB (by omega) (by omega)))) (mk_pt _ _)⟩)
    rw [sIf_eq, show c2 gNe (cVar 4) _ (fE [.val (intsD ns), .val (.int w), .val (.tuple (l.map pt)), .val (.int t), .val (.tuple (G.map pt)), .non, .non, .non, .non]) = .ok (.bool false) from c2_is rfl (call1 hlc eL) (by rw [gNe_tt, decide_eq_true rfl]; rfl), brB_ok]; rfl
  rw [hif1, sq_nx, sSeq_eq,
    show sAsg 5 (cA (pureS m_p_twice_area) (aCons (cVar 2) aNil)) [.val (intsD ns), .val (.int w), .val (.tuple (l.map pt)), .val (.int t), .val (.tuple (G.map pt)), .non, .non, .non, .non] = .nx [.val (intsD ns), .val (.int w), .val (.tuple (l.map pt)), .val (.int t), .val (.tuple (G.map pt)), .val (.int A), .non, .non, .non] from sAsg_ok (call1 rfl eA), sq_nx, sSeq_eq,
    show sAsg 6 (cA (pureS m_p_fence_stakes) (aCons (cVar 2) aNil)) [.val (intsD ns), .val (.int w), .val (.tuple (l.map pt)), .val (.int t), .val (.tuple (G.map pt)), .val (.int A), .non, .non, .non] = .nx [.val (intsD ns), .val (.int w), .val (.tuple (l.map pt)), .val (.int t), .val (.tuple (G.map pt)), .val (.int A), .val (.int F), .non, .non] from sAsg_ok (call1 rfl eF), sq_nx, sSeq_eq]
  have mu1 : gMul (.int A) (.int t) = .ok (.int (A * t)) := gMul_int (mulB (by omega) (by omega))
  have mu2 : gMul (.int (A * t)) (.int t) = .ok (.int (A * t * t)) := gMul_int (mulB' (by omega) (by omega))
  have mu3 : gMul (.int F) (.int t) = .ok (.int (F * t)) := gMul_int (mulB (by omega) (by omega))
  have x1 : A * t * t = t * t * A := by grind
  have x2 : F * t = t * F := Int.mul_comm _ _
  have hif2 : sIf (cOr (c2 gNe (cA (pureS m_p_twice_area) (aCons (cVar 4) aNil)) (c2 gMul (c2 gMul (cVar 5) (cVar 3)) (cVar 3))) (c2 gNe (cA (pureS m_p_fence_stakes) (aCons (cVar 4) aNil)) (c2 gMul (cVar 6) (cVar 3)))) (sRet (cC (.bool false))) sNext [.val (intsD ns), .val (.int w), .val (.tuple (l.map pt)), .val (.int t), .val (.tuple (G.map pt)), .val (.int A), .val (.int F), .non, .non] = .nx [.val (intsD ns), .val (.int w), .val (.tuple (l.map pt)), .val (.int t), .val (.tuple (G.map pt)), .val (.int A), .val (.int F), .non, .non] := by
    have hc : (cOr (c2 gNe (cA (pureS m_p_twice_area) (aCons (cVar 4) aNil)) (c2 gMul (c2 gMul (cVar 5) (cVar 3)) (cVar 3))) (c2 gNe (cA (pureS m_p_fence_stakes) (aCons (cVar 4) aNil)) (c2 gMul (cVar 6) (cVar 3)))) (fE [.val (intsD ns), .val (.int w), .val (.tuple (l.map pt)), .val (.int t), .val (.tuple (G.map pt)), .val (.int A), .val (.int F), .non, .non]) = .ok (.bool false) := by
      unfold cOr
      rw [show c2 gNe (cA (pureS m_p_twice_area) (aCons (cVar 4) aNil)) (c2 gMul (c2 gMul (cVar 5) (cVar 3)) (cVar 3)) (fE [.val (intsD ns), .val (.int w), .val (.tuple (l.map pt)), .val (.int t), .val (.tuple (G.map pt)), .val (.int A), .val (.int F), .non, .non]) = .ok (.bool false) from c2_is (call1 rfl eAG) (c2_is (c2_is rfl rfl mu1) rfl mu2) (by rw [gNe_int, decide_eq_true x1.symm]; rfl), bok, or_f]
      exact c2_is (call1 rfl eFG) (c2_is rfl rfl mu3) (by rw [gNe_int, decide_eq_true x2.symm]; rfl)
    rw [sIf_eq, hc, brB_ok]; rfl
  rw [hif2, sq_nx]
  have hfin : (cOr (c2 gEq (cVar 1) (cC (.int 100))) (c2 gEq (c2 gMul (cC (.int 2)) (cA (pureS m_p_inner_stakes) (aCons (cVar 4) aNil))) (c2 gAdd (c2 gSub (c2 gMul (c2 gMul (cVar 5) (cVar 3)) (cVar 3)) (c2 gMul (cVar 6) (cVar 3))) (cC (.int 2))))) (fE [.val (intsD ns), .val (.int w), .val (.tuple (l.map pt)), .val (.int t), .val (.tuple (G.map pt)), .val (.int A), .val (.int F), .non, .non]) = .ok (.bool true) := by
    unfold cOr
    rw [show c2 gEq (cVar 1) (cC (.int 100)) (fE [.val (intsD ns), .val (.int w), .val (.tuple (l.map pt)), .val (.int t), .val (.tuple (G.map pt)), .val (.int A), .val (.int F), .non, .non]) = .ok (.bool (decide (w = 100))) from c2_is rfl rfl (gEq_int _ _), bok]
    by_cases h100 : w = 100
    · rw [decide_eq_true h100, or_t]
    · rw [decide_eq_false h100, or_f]
      have hwo := w_of hbG hGne
      have eI := e_p_inner hdG (hbG.mono (by omega)) hGne (by omega) (by omega) (by omega)
      exact c2_is (c2_is rfl (call1 rfl eI) (gMul_int (c2' _))) (c2_is (c2_is (c2_is (c2_is rfl rfl mu1) rfl mu2) (c2_is rfl rfl mu3) (gSub_int _ _)) rfl (gAdd_int _ _)) (by
        rw [gEq_int, decide_eq_true (by omega)])
  rw [sRet_ok hfin]
  rfl
end PL

set_option Elab.async false
set_option linter.all false
set_option maxRecDepth 100000
set_option maxHeartbeats 1000000
/-! PN50: moved, turned, mirrored, sheared; law k50. -/
namespace PL
open PySem L2 PG
def kMove (x y : Int) : GE.Aff := ⟨1, 0, x, 0, 1, y⟩
def kTurn : GE.Aff := ⟨0, -1, 0, 1, 0, 0⟩
def kMirror : GE.Aff := ⟨-1, 0, 0, 0, 1, 0⟩
def kShear (b : Int) : GE.Aff := ⟨1, b, 0, 0, 1, 0⟩
theorem f_move (x y : Int) (p : PG.Pt) : (kMove x y).f p = (p.1 + x, p.2 + y) := by unfold kMove GE.Aff.f; exact Prod.ext (by simp only; omega) (by simp only; omega)
theorem f_turn (p : PG.Pt) : kTurn.f p = (-p.2, p.1) := by unfold kTurn GE.Aff.f; exact Prod.ext (by simp only; omega) (by simp only; omega)
theorem f_mirror (p : PG.Pt) : kMirror.f p = (-p.1, p.2) := by unfold kMirror GE.Aff.f; exact Prod.ext (by simp only; omega) (by simp only; omega)
theorem f_shear (b : Int) (p : PG.Pt) : (kShear b).f p = (p.1 + b * p.2, p.2) := by unfold kShear GE.Aff.f; exact Prod.ext (by simp only; omega) (by simp only; omega)
theorem d_move (x y : Int) : (kMove x y).det = 1 := by unfold kMove GE.Aff.det; simp
theorem d_turn : kTurn.det = 1 := by unfold kTurn GE.Aff.det; simp
theorem d_mirror : kMirror.det = -1 := by unfold kMirror GE.Aff.det; simp
theorem d_shear (b : Int) : (kShear b).det = 1 := by unfold kShear GE.Aff.det; simp
/-- a plot changed, in order -/
def chg (k : GE.Aff) (l : List PG.Pt) : List PG.Pt := inOrder (l.map k.f)
theorem chg_facts {l : List PG.Pt} {k : GE.Aff} (h : GE.Ccw l) (hk : k.det = 1 ∨ k.det = -1) : GE.Ccw (chg k l) ∧ GE.ar (chg k l) = GE.ar l ∧ GE.fe (chg k l) = GE.fe l ∧ (chg k l).length = l.length := by
  have hk0 : k.det ≠ 0 := by rcases hk with h | h <;> rw [h] <;> decide
  have hS := h.simp.aff hk0
  refine ⟨GE.Ccw_inOrder hS, ?_, ?_, ?_⟩
  · have := h.pos
    unfold chg
    rw [GE.ar_inOrder, GE.ar_aff]
    rcases hk with e | e <;> rw [e] <;> split <;> omega
  · unfold chg; rw [GE.fe_inOrder, GE.fe_aff hk]
  · unfold chg; rw [GE.len_inOrder, List.length_map]
theorem chg_bd {B C : Int} {l : List PG.Pt} {k : GE.Aff} (hb : AllB B l) (hf : ∀ p, Bd B p → Bd C (k.f p)) : AllB C (chg k l) := (map_bd hb hf).inOrder
theorem inner_same {l m : List PG.Pt} (hl : GE.Ccw l) (hm : GE.Ccw m) (ha : GE.ar m = GE.ar l) (hf : GE.fe m = GE.fe l) : inner m = inner l := by
  have p1 := inner_pick hl
  have p2 := inner_pick hm
  rw [GE.area_ar, GE.fence_fe] at p1 p2
  omega
theorem io_of {l : List PG.Pt} {k : GE.Aff} (h0 : l ≠ []) (hl : l.length < 900) (hb : AllB 1000000 (l.map k.f)) :
    m_p_in_order [.list ((l.map k.f).map pt)] = .ok (.tuple ((chg k l).map pt)) ∧ m_l_in_order [.list ((l.map k.f).map pt)] = .ok (.tuple ((chg k l).map pt)) :=
  ⟨e_p_in_order (.inl rfl) hb (by simpa using h0) (by rw [List.length_map]; omega), e_in_order (.inl rfl) hb (by simpa using h0) (by rw [List.length_map]; omega)⟩
theorem e_p_moved {d : D} {l : List PG.Pt} {x y : Int} (hd : IsPs d l) (hb : AllB 100000 l) (hx : -1000 ≤ x ∧ x ≤ 1000) (hy : -1000 ≤ y ∧ y ≤ 1000) (h0 : l ≠ []) (hl : l.length < 900) : m_p_moved [d, pt (x, y)] = .ok (.tuple ((chg (kMove x y) l).map pt)) := by
  have hio := (io_of (k := kMove x y) h0 hl (map_bd hb fun p h => by rw [f_move]; unfold Bd at *; simp only; omega)).1
  unfold m_p_moved b_p_moved
  rw [runP_eq]
  refine congrArg unr (sRet_ok (d := .tuple ((chg (kMove x y) l).map pt)) (call1 ?_ hio)) |>.trans rfl
  rw [List.map_map]
  exact cLc_map pt (xs := l) (fun p => pt ((kMove x y).f p)) (src1 (d := d) rfl (src_ps hd)) (le_size (by omega)) (fun p hp => ⟨_, rfl, fn2 (c2_is rfl (c2_is rfl rfl (ix0 (x, y))) (gAdd_int _ _)) (c2_is rfl (c2_is rfl rfl (ix1 (x, y))) (gAdd_int _ _)) (by rw [f_move]; exact mk_pt _ _)⟩)
theorem e_p_turned {d : D} {l : List PG.Pt} (hd : IsPs d l) (hb : AllB 100000 l) (h0 : l ≠ []) (hl : l.length < 900) : m_p_turned [d] = .ok (.tuple ((chg kTurn l).map pt)) := by
  have hio := (io_of (k := kTurn) h0 hl (map_bd hb fun p h => by rw [f_turn]; unfold Bd at *; simp only; omega)).1
  unfold m_p_turned b_p_turned
  rw [runP_eq]
  refine congrArg unr (sRet_ok (d := .tuple ((chg kTurn l).map pt)) (call1 ?_ hio)) |>.trans rfl
  rw [List.map_map]
  exact cLc_map pt (xs := l) (fun p => pt (kTurn.f p)) (src1 (d := d) rfl (src_ps hd)) (le_size (by omega)) (fun p hp => ⟨_, rfl, fn2 (c1_is rfl (gNeg_int _)) rfl (by rw [f_turn]; exact mk_pt _ _)⟩)
theorem e_p_mirrored {d : D} {l : List PG.Pt} (hd : IsPs d l) (hb : AllB 100000 l) (h0 : l ≠ []) (hl : l.length < 900) : m_p_mirrored [d] = .ok (.tuple ((chg kMirror l).map pt)) := by
  have hio := (io_of (k := kMirror) h0 hl (map_bd hb fun p h => by rw [f_mirror]; unfold Bd at *; simp only; omega)).1
  unfold m_p_mirrored b_p_mirrored
  rw [runP_eq]
  refine congrArg unr (sRet_ok (d := .tuple ((chg kMirror l).map pt)) (call1 ?_ hio)) |>.trans rfl
  rw [List.map_map]
  exact cLc_map pt (xs := l) (fun p => pt (kMirror.f p)) (src1 (d := d) rfl (src_ps hd)) (le_size (by omega)) (fun p hp => ⟨_, rfl, fn2 (c1_is rfl (gNeg_int _)) rfl (by rw [f_mirror]; exact mk_pt _ _)⟩)
theorem e_p_sheared {d : D} {l : List PG.Pt} {b : Int} (hd : IsPs d l) (hb : AllB 100000 l) (hbb : -3 ≤ b ∧ b ≤ 3) (h0 : l ≠ []) (hl : l.length < 900) : m_p_sheared [d, .int b] = .ok (.tuple ((chg (kShear b) l).map pt)) := by
  have hio := (io_of (k := kShear b) h0 hl (map_bd hb fun p h => by
    rw [f_shear]; unfold Bd at *
    have := GE.mul_box (a := b) (b := p.2) (X := 3) (Y := 100000) (by omega) (by omega) (by omega) (by omega)
    simp only; omega)).1
  unfold m_p_sheared b_p_sheared
  rw [runP_eq]
  refine congrArg unr (sRet_ok (d := .tuple ((chg (kShear b) l).map pt)) (call1 ?_ hio)) |>.trans rfl
  rw [List.map_map]
  exact cLc_map pt (xs := l) (fun p => pt ((kShear b).f p)) (src1 (d := d) rfl (src_ps hd)) (le_size (by omega)) (fun p hp => ⟨_, rfl, fn2 (c2_is rfl (c2_is rfl rfl (gMul_int (mulB (by omega) (by omega)))) (gAdd_int _ _)) rfl (by rw [f_shear]; exact mk_pt _ _)⟩)
theorem gIx_far (i : Int) (h : i = 0 ∨ i = 1) : ∃ far : Int, gIx (.tuple [.int 40, .int 440]) (.int i) = .ok (.int far) ∧ 40 ≤ far ∧ far ≤ 440 := by
  rcases h with h | h <;> rw [h]
  · exact ⟨40, rfl, by decide, by decide⟩
  · exact ⟨440, rfl, by decide, by decide⟩
theorem law50_true (ns : List Int) : m_l_law_k50 [intsD ns] = .ok (.bool true) := by
  have nn1 := mixed_nn ns 1
  have nn2 := mixed_nn ns 2
  have nn3 := mixed_nn ns 3
  have hp := e_plot (mixed ns 0) 6 (by omega) (by omega)
  have hpb := plot_bd (mixed ns 0) 6 (by omega) (by omega)
  have hcc := GE.Ccw_plot (mixed ns 0) 6 (by omega)
  have hcan := GE.Canon_plot (mixed ns 0) 6 (by omega)
  have hnear := plot_near (mixed ns 0) 6 (by omega)
  have m0 := e_mixed ns 0
  have m1 := e_mixed ns 1
  have m2 := e_mixed ns 2
  have m3 := e_mixed ns 3
  obtain ⟨far, hfar, far1, far2⟩ := gIx_far (mixed ns 3 / 7 % 2) (by omega)
  obtain ⟨sx, hsx, sx1, sx2⟩ : ∃ sx : Int, mixed ns 1 % (2 * far + 1) - far = sx ∧ -440 ≤ sx ∧ sx ≤ 440 := by
    have q1 := Int.emod_nonneg (mixed ns 1) (show 2 * far + 1 ≠ 0 by omega)
    have q2 := Int.emod_lt_of_pos (mixed ns 1) (show 0 < 2 * far + 1 by omega)
    exact ⟨_, rfl, by omega, by omega⟩
  obtain ⟨sy, hsy, sy1, sy2⟩ : ∃ sy : Int, mixed ns 2 % (2 * far + 1) - far = sy ∧ -440 ≤ sy ∧ sy ≤ 440 := by
    have q1 := Int.emod_nonneg (mixed ns 2) (show 2 * far + 1 ≠ 0 by omega)
    have q2 := Int.emod_lt_of_pos (mixed ns 2) (show 0 < 2 * far + 1 by omega)
    exact ⟨_, rfl, by omega, by omega⟩
  obtain ⟨b, hb, hb1, hb2⟩ : ∃ b : Int, mixed ns 3 % 7 - 3 = b ∧ -3 ≤ b ∧ b ≤ 3 := ⟨_, rfl, by omega, by omega⟩
  generalize plot (mixed ns 0) 6 = l at *
  have h0 : l ≠ [] := by
    intro e
    have := hcc.simp.len
    rw [e] at this; simp at this
  have hd : IsPs (.tuple (l.map pt)) l := .inr rfl
  have hl := hpb.2.1
  have hB : AllB 12 l := hnear.mono (by decide)
  have hB5 : AllB 100000 l := hB.mono (by decide)
  have hB6 : AllB 1000000 l := hB.mono (by decide)
  -- the four
  have ne_of : ∀ {m : List PG.Pt}, GE.Ccw m → m ≠ [] := by
    intro m hm e
    have := hm.simp.len
    rw [e] at this; simp at this
  obtain ⟨w1, a1, f1, l1⟩ := chg_facts (k := kMove sx sy) hcc (Or.inl (d_move _ _))
  obtain ⟨c2', a2, f2, l2⟩ := chg_facts (k := kTurn) hcc (Or.inl d_turn)
  obtain ⟨w3, a3, f3, l3⟩ := chg_facts (k := kMirror) hcc (Or.inr d_mirror)
  obtain ⟨w4, a4, f4, l4⟩ := chg_facts (k := kShear b) hcc (Or.inl (d_shear b))
  have b1 : AllB 452 (chg (kMove sx sy) l) := chg_bd hB fun p h => by rw [f_move]; unfold Bd at *; simp only; omega
  have b2 : AllB 452 (chg kTurn l) := chg_bd hB fun p h => by rw [f_turn]; unfold Bd at *; simp only; omega
  have b3 : AllB 452 (chg kMirror l) := chg_bd hB fun p h => by rw [f_mirror]; unfold Bd at *; simp only; omega
  have b4 : AllB 452 (chg (kShear b) l) := chg_bd hB fun p h => by
    rw [f_shear]; unfold Bd at *
    have := GE.mul_box (a := b) (b := p.2) (X := 3) (Y := 12) (by omega) (by omega) (by omega) (by omega)
    simp only; omega
  have i1 := (io_of (k := kMove sx sy) h0 (by omega) (map_bd hB fun p h => by rw [f_move]; unfold Bd at *; simp only; omega)).2
  have i2 := (io_of (k := kTurn) h0 (by omega) (map_bd hB fun p h => by rw [f_turn]; unfold Bd at *; simp only; omega)).2
  have i3 := (io_of (k := kMirror) h0 (by omega) (map_bd hB fun p h => by rw [f_mirror]; unfold Bd at *; simp only; omega)).2
  have i4 := (io_of (k := kShear b) h0 (by omega) (map_bd hB fun p h => by
    rw [f_shear]; unfold Bd at *
    have := GE.mul_box (a := b) (b := p.2) (X := 3) (Y := 12) (by omega) (by omega) (by omega) (by omega)
    simp only; omega)).2
  have e1 := e_p_moved hd hB5 (x := sx) (y := sy) (by omega) (by omega) h0 (by omega)
  have e2 := e_p_turned hd hB5 h0 (by omega)
  have e3 := e_p_mirrored hd hB5 h0 (by omega)
  have e4 := e_p_sheared hd hB5 (b := b) ⟨hb1, hb2⟩ h0 (by omega)
  have bk1 := GE.back hcc.simp hcan (f := kMove sx sy) (g := kMove (-sx) (-sy)) (by rw [d_move]; decide) (by rw [d_move]; decide) (fun p => by rw [f_move, f_move]; exact Prod.ext (by simp only; omega) (by simp only; omega))
  have bk3 := GE.back hcc.simp hcan (f := kMirror) (g := kMirror) (by rw [d_mirror]; decide) (by rw [d_mirror]; decide) (fun p => by rw [f_mirror, f_mirror]; exact Prod.ext (by simp only; omega) (by simp only))
  have bk4 := GE.back hcc.simp hcan (f := kShear b) (g := kShear (-b)) (by rw [d_shear]; decide) (by rw [d_shear]; decide) (fun p => by rw [f_shear, f_shear]; exact Prod.ext (by simp only; rw [Int.neg_mul]; omega) (by simp only))
  have bk2 := GE.back4 hcc.simp hcan (f := kTurn) (by rw [d_turn]; decide) (fun p => by rw [f_turn, f_turn, f_turn, f_turn]; exact Prod.ext (by simp only; omega) (by simp only; omega))
  change chg (kMove (-sx) (-sy)) (chg (kMove sx sy) l) = l at bk1
  change chg kMirror (chg kMirror l) = l at bk3
  change chg (kShear (-b)) (chg (kShear b) l) = l at bk4
  change chg kTurn (chg kTurn (chg kTurn (chg kTurn l))) = l at bk2
  -- what is asked of each
  have each : ∀ m : List PG.Pt, GE.Ccw m → GE.ar m = GE.ar l → GE.fe m = GE.fe l → m.length = l.length → AllB 452 m →
      m_p_twice_area [.tuple (m.map pt)] = .ok (.int (GE.ar l)) ∧ m_p_fence_stakes [.tuple (m.map pt)] = .ok (.int (GE.fe l)) ∧ m_p_inner_stakes [.tuple (m.map pt)] = .ok (.int (inner l)) := by
    intro m hm ha hf hml hmb
    have q1 := e_p_twice (.inr rfl : IsPs (.tuple (m.map pt)) m) (hmb.mono (by decide)) (by omega)
    have q2 := e_p_fence (.inr rfl : IsPs (.tuple (m.map pt)) m) (hmb.mono (by decide)) (by omega)
    have hwo := w_of hmb (ne_of hm)
    have q3 := e_p_inner (.inr rfl : IsPs (.tuple (m.map pt)) m) (hmb.mono (by decide)) (ne_of hm) (by omega) (by omega) (by omega)
    rw [GE.area_ar, ha] at q1
    rw [GE.fence_fe, hf] at q2
    rw [inner_same hcc hm ha hf] at q3
    exact ⟨q1, q2, q3⟩
  have E0 := each l hcc rfl rfl rfl (hB.mono (by decide))
  have E1 := each _ w1 a1 f1 l1 b1
  have E2 := each _ c2' a2 f2 l2 b2
  have E3 := each _ w3 a3 f3 l3 b3
  have E4 := each _ w4 a4 f4 l4 b4
  -- back again
  have r1 := e_p_moved (.inr rfl : IsPs (.tuple ((chg (kMove sx sy) l).map pt)) _) (b1.mono (by decide)) (x := -sx) (y := -sy) (by omega) (by omega) (ne_of w1) (by omega)
  have r3 := e_p_mirrored (.inr rfl : IsPs (.tuple ((chg kMirror l).map pt)) _) (b3.mono (by decide)) (ne_of w3) (by omega)
  have r4 := e_p_sheared (.inr rfl : IsPs (.tuple ((chg (kShear b) l).map pt)) _) (b4.mono (by decide)) (b := -b) (by omega) (ne_of w4) (by omega)
  rw [bk1] at r1
  rw [bk3] at r3
  rw [bk4] at r4
  have tb : ∀ {m : List PG.Pt}, AllB 452 m → AllB 452 (chg kTurn m) := fun hm => chg_bd hm fun p h => by rw [f_turn]; unfold Bd at *; simp only; omega
  obtain ⟨w5, _, _, l5⟩ := chg_facts (k := kTurn) c2' (Or.inl d_turn)
  obtain ⟨w6, _, _, l6⟩ := chg_facts (k := kTurn) w5 (Or.inl d_turn)
  have t2 := e_p_turned (.inr rfl : IsPs (.tuple ((chg kTurn l).map pt)) _) (b2.mono (by decide)) (ne_of c2') (by omega)
  have t3 := e_p_turned (.inr rfl : IsPs (.tuple ((chg kTurn (chg kTurn l)).map pt)) _) ((tb b2).mono (by decide)) (ne_of w5) (by omega)
  have t4 := e_p_turned (.inr rfl : IsPs (.tuple ((chg kTurn (chg kTurn (chg kTurn l))).map pt)) _) ((tb (tb b2)).mono (by decide)) (ne_of w6) (by omega)
  rw [bk2] at t4
  generalize hM1 : chg (kMove sx sy) l = M1 at *
  generalize hM2 : chg kTurn l = M2 at *
  generalize hM3 : chg kMirror l = M3 at *
  generalize hM4 : chg (kShear b) l = M4 at *
  have div7 : gDiv (.int (mixed ns 3)) (.int 7) = .ok (.int (mixed ns 3 / 7)) := gDiv_int (by decide)
  have mod2 : gMod (.int (mixed ns 3 / 7)) (.int 2) = .ok (.int (mixed ns 3 / 7 % 2)) := gMod_int (by decide)
  have mod7 : gMod (.int (mixed ns 3)) (.int 7) = .ok (.int (mixed ns 3 % 7)) := gMod_int (by decide)
  have mfa : gMod (.int (mixed ns 1)) (.int (2 * far + 1)) = .ok (.int (mixed ns 1 % (2 * far + 1))) := gMod_int (by omega)
  have mfb : gMod (.int (mixed ns 2)) (.int (2 * far + 1)) = .ok (.int (mixed ns 2 % (2 * far + 1))) := gMod_int (by omega)
  have hadd : (c2 gAdd (c2 gMul (cC (.int 2)) (cVar 2)) (cC (.int 1))) (vE [.val (intsD ns), .val (.tuple (l.map pt)), .val (.int far), .non, .non, .non, .non, .non, .non, .non, .non, .non]) = .ok (.int (2 * far + 1)) := c2_is (c2_is rfl rfl (gMul_int (PL.c2' _))) rfl (gAdd_int _ _)
  unfold m_l_law_k50 b_l_law_k50
  rw [runP_eq, sSeq_eq, show sAsg 1 (cA (pureS m_l_plot) (aCons (cA (pureS m_l_mixed) (aCons (cVar 0) (aCons (cC (.int 0)) aNil))) (aCons (cC (.int 6)) aNil))) (iniS 12 [intsD ns]) = .nx [.val (intsD ns), .val (.tuple (l.map pt)), .non, .non, .non, .non, .non, .non, .non, .non, .non, .non] from
      sAsg_ok (call2 (call2 rfl rfl m0) rfl hp), sq_nx, sSeq_eq,
    show sAsg 2 (c2 gIx (cA mkTup (aCons (cC (.int 40)) (aCons (cC (.int 440)) aNil))) (c2 gMod (c2 gDiv (cA (pureS m_l_mixed) (aCons (cVar 0) (aCons (cC (.int 3)) aNil))) (cC (.int 7))) (cC (.int 2)))) [.val (intsD ns), .val (.tuple (l.map pt)), .non, .non, .non, .non, .non, .non, .non, .non, .non, .non] = .nx [.val (intsD ns), .val (.tuple (l.map pt)), .val (.int far), .non, .non, .non, .non, .non, .non, .non, .non, .non] from
      sAsg_ok (c2_is (x := .tuple [.int 40, .int 440]) (fn2 rfl rfl (size2 _ _)) (c2_is (c2_is (call2 rfl rfl m3) rfl div7) rfl mod2) hfar), sq_nx, sSeq_eq,
    show sAsg 3 (cA mkTup (aCons (c2 gSub (c2 gMod (cA (pureS m_l_mixed) (aCons (cVar 0) (aCons (cC (.int 1)) aNil))) (c2 gAdd (c2 gMul (cC (.int 2)) (cVar 2)) (cC (.int 1)))) (cVar 2)) (aCons (c2 gSub (c2 gMod (cA (pureS m_l_mixed) (aCons (cVar 0) (aCons (cC (.int 2)) aNil))) (c2 gAdd (c2 gMul (cC (.int 2)) (cVar 2)) (cC (.int 1)))) (cVar 2)) aNil))) [.val (intsD ns), .val (.tuple (l.map pt)), .val (.int far), .non, .non, .non, .non, .non, .non, .non, .non, .non] = .nx [.val (intsD ns), .val (.tuple (l.map pt)), .val (.int far), .val (pt (sx, sy)), .non, .non, .non, .non, .non, .non, .non, .non] from
      sAsg_ok (fn2 (c2_is (c2_is (call2 rfl rfl m1) hadd mfa) rfl (by rw [gSub_int, hsx])) (c2_is (c2_is (call2 rfl rfl m2) hadd mfb) rfl (by rw [gSub_int, hsy])) (mk_pt _ _)), sq_nx, sSeq_eq,
    show sAsg 4 (c2 gSub (c2 gMod (cA (pureS m_l_mixed) (aCons (cVar 0) (aCons (cC (.int 3)) aNil))) (cC (.int 7))) (cC (.int 3))) [.val (intsD ns), .val (.tuple (l.map pt)), .val (.int far), .val (pt (sx, sy)), .non, .non, .non, .non, .non, .non, .non, .non] = .nx [.val (intsD ns), .val (.tuple (l.map pt)), .val (.int far), .val (pt (sx, sy)), .val (.int b), .non, .non, .non, .non, .non, .non, .non] from
      sAsg_ok (c2_is (c2_is (call2 rfl rfl m3) rfl mod7) rfl (by rw [gSub_int, hb])), sq_nx, sSeq_eq,
    show sAsg 5 (cA (pureS m_p_moved) (aCons (cVar 1) (aCons (cVar 3) aNil))) [.val (intsD ns), .val (.tuple (l.map pt)), .val (.int far), .val (pt (sx, sy)), .val (.int b), .non, .non, .non, .non, .non, .non, .non] = .nx [.val (intsD ns), .val (.tuple (l.map pt)), .val (.int far), .val (pt (sx, sy)), .val (.int b), .val (.tuple (M1.map pt)), .non, .non, .non, .non, .non, .non] from sAsg_ok (call2 rfl rfl e1), sq_nx, sSeq_eq]
  have hif1 : sIf (c2 gNe (cVar 5) (cA (pureS m_l_in_order) (aCons (cLc (cSrc (cVar 1)) [10, 11] (tPair 10 11) (cC (.bool true)) (cA mkTup (aCons (c2 gAdd (cVar 10) (c2 gIx (cVar 3) (cC (.int 0)))) (aCons (c2 gAdd (cVar 11) (c2 gIx (cVar 3) (cC (.int 1)))) aNil)))) aNil))) (sRet (cC (.bool false))) sNext [.val (intsD ns), .val (.tuple (l.map pt)), .val (.int far), .val (pt (sx, sy)), .val (.int b), .val (.tuple (M1.map pt)), .non, .non, .non, .non, .non, .non] = .nx [.val (intsD ns), .val (.tuple (l.map pt)), .val (.int far), .val (pt (sx, sy)), .val (.int b), .val (.tuple (M1.map pt)), .non, .non, .non, .non, .non, .non] := by
    have hlc : cLc (cSrc (cVar 1)) [10, 11] (tPair 10 11) (cC (.bool true)) (cA mkTup (aCons (c2 gAdd (cVar 10) (c2 gIx (cVar 3) (cC (.int 0)))) (aCons (c2 gAdd (cVar 11) (c2 gIx (cVar 3) (cC (.int 1)))) aNil))) (fE [.val (intsD ns), .val (.tuple (l.map pt)), .val (.int far), .val (pt (sx, sy)), .val (.int b), .val (.tuple (M1.map pt)), .non, .non, .non, .non, .non, .non]) = .ok (.list ((l.map (kMove sx sy).f).map pt)) := by
      rw [List.map_map]
      exact cLc_map pt (xs := l) (fun p => pt ((kMove sx sy).f p)) (src1 (d := .tuple (l.map pt)) rfl rfl) (le_size (by omega)) (fun p hp => ⟨_, rfl, fn2 (c2_is rfl (c2_is rfl rfl (ix0 (sx, sy))) (gAdd_int _ _)) (c2_is rfl (c2_is rfl rfl (ix1 (sx, sy))) (gAdd_int _ _)) (by rw [f_move]; exact mk_pt _ _)⟩)
    rw [sIf_eq, show c2 gNe (cVar 5) _ (fE [.val (intsD ns), .val (.tuple (l.map pt)), .val (.int far), .val (pt (sx, sy)), .val (.int b), .val (.tuple (M1.map pt)), .non, .non, .non, .non, .non, .non]) = .ok (.bool false) from c2_is rfl (call1 hlc i1) (by rw [gNe_tt, decide_eq_true rfl]; rfl), brB_ok]; rfl
  rw [hif1, sq_nx, sSeq_eq,
    show sAsg 6 (cA (pureS m_p_turned) (aCons (cVar 1) aNil)) [.val (intsD ns), .val (.tuple (l.map pt)), .val (.int far), .val (pt (sx, sy)), .val (.int b), .val (.tuple (M1.map pt)), .non, .non, .non, .non, .non, .non] = .nx [.val (intsD ns), .val (.tuple (l.map pt)), .val (.int far), .val (pt (sx, sy)), .val (.int b), .val (.tuple (M1.map pt)), .val (.tuple (M2.map pt)), .non, .non, .non, .non, .non] from sAsg_ok (call1 rfl e2), sq_nx, sSeq_eq,
    show sAsg 7 (cA (pureS m_p_mirrored) (aCons (cVar 1) aNil)) [.val (intsD ns), .val (.tuple (l.map pt)), .val (.int far), .val (pt (sx, sy)), .val (.int b), .val (.tuple (M1.map pt)), .val (.tuple (M2.map pt)), .non, .non, .non, .non, .non] = .nx [.val (intsD ns), .val (.tuple (l.map pt)), .val (.int far), .val (pt (sx, sy)), .val (.int b), .val (.tuple (M1.map pt)), .val (.tuple (M2.map pt)), .val (.tuple (M3.map pt)), .non, .non, .non, .non] from sAsg_ok (call1 rfl e3), sq_nx, sSeq_eq]
  have hif2 : sIf (cOr (c2 gNe (cVar 6) (cA (pureS m_l_in_order) (aCons (cLc (cSrc (cVar 1)) [10, 11] (tPair 10 11) (cC (.bool true)) (cA mkTup (aCons (c1 gNeg (cVar 11)) (aCons (cVar 10) aNil)))) aNil))) (c2 gNe (cVar 7) (cA (pureS m_l_in_order) (aCons (cLc (cSrc (cVar 1)) [10, 11] (tPair 10 11) (cC (.bool true)) (cA mkTup (aCons (c1 gNeg (cVar 10)) (aCons (cVar 11) aNil)))) aNil)))) (sRet (cC (.bool false))) sNext [.val (intsD ns), .val (.tuple (l.map pt)), .val (.int far), .val (pt (sx, sy)), .val (.int b), .val (.tuple (M1.map pt)), .val (.tuple (M2.map pt)), .val (.tuple (M3.map pt)), .non, .non, .non, .non] = .nx [.val (intsD ns), .val (.tuple (l.map pt)), .val (.int far), .val (pt (sx, sy)), .val (.int b), .val (.tuple (M1.map pt)), .val (.tuple (M2.map pt)), .val (.tuple (M3.map pt)), .non, .non, .non, .non] := by
    have hlc2 : cLc (cSrc (cVar 1)) [10, 11] (tPair 10 11) (cC (.bool true)) (cA mkTup (aCons (c1 gNeg (cVar 11)) (aCons (cVar 10) aNil))) (fE [.val (intsD ns), .val (.tuple (l.map pt)), .val (.int far), .val (pt (sx, sy)), .val (.int b), .val (.tuple (M1.map pt)), .val (.tuple (M2.map pt)), .val (.tuple (M3.map pt)), .non, .non, .non, .non]) = .ok (.list ((l.map kTurn.f).map pt)) := by
      rw [List.map_map]
      exact cLc_map pt (xs := l) (fun p => pt (kTurn.f p)) (src1 (d := .tuple (l.map pt)) rfl rfl) (le_size (by omega)) (fun p hp => ⟨_, rfl, fn2 (c1_is rfl (gNeg_int _)) rfl (by rw [f_turn]; exact mk_pt _ _)⟩)
    have hlc3 : cLc (cSrc (cVar 1)) [10, 11] (tPair 10 11) (cC (.bool true)) (cA mkTup (aCons (c1 gNeg (cVar 10)) (aCons (cVar 11) aNil))) (fE [.val (intsD ns), .val (.tuple (l.map pt)), .val (.int far), .val (pt (sx, sy)), .val (.int b), .val (.tuple (M1.map pt)), .val (.tuple (M2.map pt)), .val (.tuple (M3.map pt)), .non, .non, .non, .non]) = .ok (.list ((l.map kMirror.f).map pt)) := by
      rw [List.map_map]
      exact cLc_map pt (xs := l) (fun p => pt (kMirror.f p)) (src1 (d := .tuple (l.map pt)) rfl rfl) (le_size (by omega)) (fun p hp => ⟨_, rfl, fn2 (c1_is rfl (gNeg_int _)) rfl (by rw [f_mirror]; exact mk_pt _ _)⟩)
    have hc : (cOr (c2 gNe (cVar 6) (cA (pureS m_l_in_order) (aCons (cLc (cSrc (cVar 1)) [10, 11] (tPair 10 11) (cC (.bool true)) (cA mkTup (aCons (c1 gNeg (cVar 11)) (aCons (cVar 10) aNil)))) aNil))) (c2 gNe (cVar 7) (cA (pureS m_l_in_order) (aCons (cLc (cSrc (cVar 1)) [10, 11] (tPair 10 11) (cC (.bool true)) (cA mkTup (aCons (c1 gNeg (cVar 10)) (aCons (cVar 11) aNil)))) aNil)))) (fE [.val (intsD ns), .val (.tuple (l.map pt)), .val (.int far), .val (pt (sx, sy)), .val (.int b), .val (.tuple (M1.map pt)), .val (.tuple (M2.map pt)), .val (.tuple (M3.map pt)), .non, .non, .non, .non]) = .ok (.bool false) := by
      unfold cOr
      rw [show c2 gNe (cVar 6) _ (fE [.val (intsD ns), .val (.tuple (l.map pt)), .val (.int far), .val (pt (sx, sy)), .val (.int b), .val (.tuple (M1.map pt)), .val (.tuple (M2.map pt)), .val (.tuple (M3.map pt)), .non, .non, .non, .non]) = .ok (.bool false) from c2_is rfl (call1 hlc2 i2) (by rw [gNe_tt, decide_eq_true rfl]; rfl), bok, or_f]
      exact c2_is rfl (call1 hlc3 i3) (by rw [gNe_tt, decide_eq_true rfl]; rfl)
    rw [sIf_eq, hc, brB_ok]; rfl
  rw [hif2, sq_nx, sSeq_eq,
    show sAsg 8 (cA (pureS m_p_sheared) (aCons (cVar 1) (aCons (cVar 4) aNil))) [.val (intsD ns), .val (.tuple (l.map pt)), .val (.int far), .val (pt (sx, sy)), .val (.int b), .val (.tuple (M1.map pt)), .val (.tuple (M2.map pt)), .val (.tuple (M3.map pt)), .non, .non, .non, .non] = .nx [.val (intsD ns), .val (.tuple (l.map pt)), .val (.int far), .val (pt (sx, sy)), .val (.int b), .val (.tuple (M1.map pt)), .val (.tuple (M2.map pt)), .val (.tuple (M3.map pt)), .val (.tuple (M4.map pt)), .non, .non, .non] from sAsg_ok (call2 rfl rfl e4), sq_nx, sSeq_eq]
  have hif3 : sIf (c2 gNe (cVar 8) (cA (pureS m_l_in_order) (aCons (cLc (cSrc (cVar 1)) [10, 11] (tPair 10 11) (cC (.bool true)) (cA mkTup (aCons (c2 gAdd (cVar 10) (c2 gMul (cVar 4) (cVar 11))) (aCons (cVar 11) aNil)))) aNil))) (sRet (cC (.bool false))) sNext [.val (intsD ns), .val (.tuple (l.map pt)), .val (.int far), .val (pt (sx, sy)), .val (.int b), .val (.tuple (M1.map pt)), .val (.tuple (M2.map pt)), .val (.tuple (M3.map pt)), .val (.tuple (M4.map pt)), .non, .non, .non] = .nx [.val (intsD ns), .val (.tuple (l.map pt)), .val (.int far), .val (pt (sx, sy)), .val (.int b), .val (.tuple (M1.map pt)), .val (.tuple (M2.map pt)), .val (.tuple (M3.map pt)), .val (.tuple (M4.map pt)), .non, .non, .non] := by
    have hlc : cLc (cSrc (cVar 1)) [10, 11] (tPair 10 11) (cC (.bool true)) (cA mkTup (aCons (c2 gAdd (cVar 10) (c2 gMul (cVar 4) (cVar 11))) (aCons (cVar 11) aNil))) (fE [.val (intsD ns), .val (.tuple (l.map pt)), .val (.int far), .val (pt (sx, sy)), .val (.int b), .val (.tuple (M1.map pt)), .val (.tuple (M2.map pt)), .val (.tuple (M3.map pt)), .val (.tuple (M4.map pt)), .non, .non, .non]) = .ok (.list ((l.map (kShear b).f).map pt)) := by
      rw [List.map_map]
      exact cLc_map pt (xs := l) (fun p => pt ((kShear b).f p)) (src1 (d := .tuple (l.map pt)) rfl rfl) (le_size (by omega)) (fun p hp => ⟨_, rfl, fn2 (c2_is rfl (c2_is rfl rfl (gMul_int (mulB (by omega) (by omega)))) (gAdd_int _ _)) rfl (by rw [f_shear]; exact mk_pt _ _)⟩)
    rw [sIf_eq, show c2 gNe (cVar 8) _ (fE [.val (intsD ns), .val (.tuple (l.map pt)), .val (.int far), .val (pt (sx, sy)), .val (.int b), .val (.tuple (M1.map pt)), .val (.tuple (M2.map pt)), .val (.tuple (M3.map pt)), .val (.tuple (M4.map pt)), .non, .non, .non]) = .ok (.bool false) from c2_is rfl (call1 hlc i4) (by rw [gNe_tt, decide_eq_true rfl]; rfl), brB_ok]; rfl
  rw [hif3, sq_nx, sSeq_eq]
  have hE : ∀ m ∈ [M1, M2, M3, M4], m_p_twice_area [.tuple (m.map pt)] = .ok (.int (GE.ar l)) ∧ m_p_fence_stakes [.tuple (m.map pt)] = .ok (.int (GE.fe l)) ∧ m_p_inner_stakes [.tuple (m.map pt)] = .ok (.int (inner l)) := by
    intro m hm
    simp only [List.mem_cons, List.not_mem_nil, or_false] at hm
    rcases hm with e | e | e | e <;> subst e
    · exact E1
    · exact E2
    · exact E3
    · exact E4
  have hloop := forL_any (fun m : List PG.Pt => (.tuple (m.map pt) : D)) (sName 9) (sSeq (sIf (cOr (c2 gNe (cA (pureS m_p_twice_area) (aCons (cVar 9) aNil)) (cA (pureS m_p_twice_area) (aCons (cVar 1) aNil))) (c2 gNe (cA (pureS m_p_fence_stakes) (aCons (cVar 9) aNil)) (cA (pureS m_p_fence_stakes) (aCons (cVar 1) aNil)))) (sRet (cC (.bool false))) sNext)
 (sIf (c2 gNe (cA (pureS m_p_inner_stakes) (aCons (cVar 9) aNil)) (cA (pureS m_p_inner_stakes) (aCons (cVar 1) aNil))) (sRet (cC (.bool false))) sNext)) (fun σ : SE => ∃ a, σ = [.val (intsD ns), .val (.tuple (l.map pt)), .val (.int far), .val (pt (sx, sy)), .val (.int b), .val (.tuple (M1.map pt)), .val (.tuple (M2.map pt)), .val (.tuple (M3.map pt)), .val (.tuple (M4.map pt)), a, .non, .non]) (fun _ => false) (.bool false) [M1, M2, M3, M4]
    [.val (intsD ns), .val (.tuple (l.map pt)), .val (.int far), .val (pt (sx, sy)), .val (.int b), .val (.tuple (M1.map pt)), .val (.tuple (M2.map pt)), .val (.tuple (M3.map pt)), .val (.tuple (M4.map pt)), .non, .non, .non] ⟨_, rfl⟩ (by
      rintro m hm σ ⟨a, rfl⟩
      obtain ⟨q1, q2, q3⟩ := hE m hm
      refine ⟨_, rfl, (fun h => by cases h), fun _ => ⟨[.val (intsD ns), .val (.tuple (l.map pt)), .val (.int far), .val (pt (sx, sy)), .val (.int b), .val (.tuple (M1.map pt)), .val (.tuple (M2.map pt)), .val (.tuple (M3.map pt)), .val (.tuple (M4.map pt)), .val (.tuple (m.map pt)), .non, .non], ?_, .val (.tuple (m.map pt)), rfl⟩⟩
      have hc1 : (cOr (c2 gNe (cA (pureS m_p_twice_area) (aCons (cVar 9) aNil)) (cA (pureS m_p_twice_area) (aCons (cVar 1) aNil))) (c2 gNe (cA (pureS m_p_fence_stakes) (aCons (cVar 9) aNil)) (cA (pureS m_p_fence_stakes) (aCons (cVar 1) aNil)))) (fE [.val (intsD ns), .val (.tuple (l.map pt)), .val (.int far), .val (pt (sx, sy)), .val (.int b), .val (.tuple (M1.map pt)), .val (.tuple (M2.map pt)), .val (.tuple (M3.map pt)), .val (.tuple (M4.map pt)), .val (.tuple (m.map pt)), .non, .non]) = .ok (.bool false) := by
        unfold cOr
        rw [show c2 gNe (cA (pureS m_p_twice_area) (aCons (cVar 9) aNil)) (cA (pureS m_p_twice_area) (aCons (cVar 1) aNil)) (fE [.val (intsD ns), .val (.tuple (l.map pt)), .val (.int far), .val (pt (sx, sy)), .val (.int b), .val (.tuple (M1.map pt)), .val (.tuple (M2.map pt)), .val (.tuple (M3.map pt)), .val (.tuple (M4.map pt)), .val (.tuple (m.map pt)), .non, .non]) = .ok (.bool false) from c2_is (call1 rfl q1) (call1 rfl E0.1) (by rw [gNe_int, decide_eq_true rfl]; rfl), bok, or_f]
        exact c2_is (call1 rfl q2) (call1 rfl E0.2.1) (by rw [gNe_int, decide_eq_true rfl]; rfl)
      have hc2 : (c2 gNe (cA (pureS m_p_inner_stakes) (aCons (cVar 9) aNil)) (cA (pureS m_p_inner_stakes) (aCons (cVar 1) aNil))) (fE [.val (intsD ns), .val (.tuple (l.map pt)), .val (.int far), .val (pt (sx, sy)), .val (.int b), .val (.tuple (M1.map pt)), .val (.tuple (M2.map pt)), .val (.tuple (M3.map pt)), .val (.tuple (M4.map pt)), .val (.tuple (m.map pt)), .non, .non]) = .ok (.bool false) :=
        c2_is (call1 rfl q3) (call1 rfl E0.2.2) (by rw [gNe_int, decide_eq_true rfl]; rfl)
      show sSeq _ _ [.val (intsD ns), .val (.tuple (l.map pt)), .val (.int far), .val (pt (sx, sy)), .val (.int b), .val (.tuple (M1.map pt)), .val (.tuple (M2.map pt)), .val (.tuple (M3.map pt)), .val (.tuple (M4.map pt)), .val (.tuple (m.map pt)), .non, .non] = _
      rw [sSeq_eq, sIf_eq, hc1, brB_ok, if_neg Bool.false_ne_true, show sNext [.val (intsD ns), .val (.tuple (l.map pt)), .val (.int far), .val (pt (sx, sy)), .val (.int b), .val (.tuple (M1.map pt)), .val (.tuple (M2.map pt)), .val (.tuple (M3.map pt)), .val (.tuple (M4.map pt)), .val (.tuple (m.map pt)), .non, .non] = .nx _ from rfl, sq_nx, sIf_eq, hc2, brB_ok, if_neg Bool.false_ne_true]; rfl)
  obtain ⟨σ', h1, a, h2⟩ := hloop.2 (by rfl)
  subst h2
  rw [sFor_ok (cs := cSrc (cA mkTup (aCons (cVar 5) (aCons (cVar 6) (aCons (cVar 7) (aCons (cVar 8) aNil)))))) (ds := [M1, M2, M3, M4].map fun m : List PG.Pt => (.tuple (m.map pt) : D)) (src1 (fn4 rfl rfl rfl rfl (size4 _ _ _ _)) rfl), h1, sq_nx, sSeq_eq]
  have hif4 : sIf (cOr (c2 gNe (cA (pureS m_p_moved) (aCons (cVar 5) (aCons (cA mkTup (aCons (c1 gNeg (c2 gIx (cVar 3) (cC (.int 0)))) (aCons (c1 gNeg (c2 gIx (cVar 3) (cC (.int 1)))) aNil))) aNil))) (cVar 1)) (cOr (c2 gNe (cA (pureS m_p_mirrored) (aCons (cVar 7) aNil)) (cVar 1)) (c2 gNe (cA (pureS m_p_sheared) (aCons (cVar 8) (aCons (c1 gNeg (cVar 4)) aNil))) (cVar 1)))) (sRet (cC (.bool false))) sNext [.val (intsD ns), .val (.tuple (l.map pt)), .val (.int far), .val (pt (sx, sy)), .val (.int b), .val (.tuple (M1.map pt)), .val (.tuple (M2.map pt)), .val (.tuple (M3.map pt)), .val (.tuple (M4.map pt)), a, .non, .non] = .nx [.val (intsD ns), .val (.tuple (l.map pt)), .val (.int far), .val (pt (sx, sy)), .val (.int b), .val (.tuple (M1.map pt)), .val (.tuple (M2.map pt)), .val (.tuple (M3.map pt)), .val (.tuple (M4.map pt)), a, .non, .non] := by
    have hc : (cOr (c2 gNe (cA (pureS m_p_moved) (aCons (cVar 5) (aCons (cA mkTup (aCons (c1 gNeg (c2 gIx (cVar 3) (cC (.int 0)))) (aCons (c1 gNeg (c2 gIx (cVar 3) (cC (.int 1)))) aNil))) aNil))) (cVar 1)) (cOr (c2 gNe (cA (pureS m_p_mirrored) (aCons (cVar 7) aNil)) (cVar 1)) (c2 gNe (cA (pureS m_p_sheared) (aCons (cVar 8) (aCons (c1 gNeg (cVar 4)) aNil))) (cVar 1)))) (fE [.val (intsD ns), .val (.tuple (l.map pt)), .val (.int far), .val (pt (sx, sy)), .val (.int b), .val (.tuple (M1.map pt)), .val (.tuple (M2.map pt)), .val (.tuple (M3.map pt)), .val (.tuple (M4.map pt)), a, .non, .non]) = .ok (.bool false) := by
      unfold cOr
      rw [show c2 gNe (cA (pureS m_p_moved) (aCons (cVar 5) (aCons (cA mkTup (aCons (c1 gNeg (c2 gIx (cVar 3) (cC (.int 0)))) (aCons (c1 gNeg (c2 gIx (cVar 3) (cC (.int 1)))) aNil))) aNil))) (cVar 1) (fE [.val (intsD ns), .val (.tuple (l.map pt)), .val (.int far), .val (pt (sx, sy)), .val (.int b), .val (.tuple (M1.map pt)), .val (.tuple (M2.map pt)), .val (.tuple (M3.map pt)), .val (.tuple (M4.map pt)), a, .non, .non]) = .ok (.bool false) from
        c2_is (call2 (y := pt (-sx, -sy)) rfl (fn2 (c1_is (c2_is rfl rfl (ix0 (sx, sy))) (gNeg_int _)) (c1_is (c2_is rfl rfl (ix1 (sx, sy))) (gNeg_int _)) (mk_pt _ _)) r1) rfl (by rw [gNe_tt, decide_eq_true rfl]; rfl), bok, or_f]
      rw [show c2 gNe (cA (pureS m_p_mirrored) (aCons (cVar 7) aNil)) (cVar 1) (fE [.val (intsD ns), .val (.tuple (l.map pt)), .val (.int far), .val (pt (sx, sy)), .val (.int b), .val (.tuple (M1.map pt)), .val (.tuple (M2.map pt)), .val (.tuple (M3.map pt)), .val (.tuple (M4.map pt)), a, .non, .non]) = .ok (.bool false) from
        c2_is (call1 rfl r3) rfl (by rw [gNe_tt, decide_eq_true rfl]; rfl), bok, or_f]
      exact c2_is (call2 rfl (c1_is rfl (gNeg_int _)) r4) rfl (by rw [gNe_tt, decide_eq_true rfl]; rfl)
    rw [sIf_eq, hc, brB_ok]; rfl
  rw [hif4, sq_nx]
  have hfin : (c2 gEq (cA (pureS m_p_turned) (aCons (cA (pureS m_p_turned) (aCons (cA (pureS m_p_turned) (aCons (cVar 6) aNil)) aNil)) aNil)) (cVar 1)) (fE [.val (intsD ns), .val (.tuple (l.map pt)), .val (.int far), .val (pt (sx, sy)), .val (.int b), .val (.tuple (M1.map pt)), .val (.tuple (M2.map pt)), .val (.tuple (M3.map pt)), .val (.tuple (M4.map pt)), a, .non, .non]) = .ok (.bool true) :=
    c2_is (call1 (call1 (call1 rfl t2) t3) t4) rfl (by rw [gEq_tt, decide_eq_true rfl])
  rw [sRet_ok hfin]
  rfl
end PL

set_option Elab.async false
set_option linter.all false
set_option maxRecDepth 100000
set_option maxHeartbeats 4000000
namespace PL
open PySem PySem.Spec PyProof.Rows L2
variable {Cl : Nat → Addr}
def topS (i : Nat) : Stmt := PySem.Challenge.pw_plotstead_k50_whole_changes.main.body.getD i (.Pass ⟨0, 0, 0, 0⟩)
abbrev s_p_turn : Stmt := topS 1
abbrev N_p_turn : List Str := ["a", "b", "c"]
theorem sc_p_turn : FnScope N_p_turn ["a", "b", "c"] (defScope s_p_turn) := ⟨rfl, rfl, rfl, by decide +kernel, rfl, by decide +kernel, by decide +kernel⟩
abbrev s_p_lies_on : Stmt := topS 2
abbrev N_p_lies_on : List Str := ["a", "b", "c"]
theorem sc_p_lies_on : FnScope N_p_lies_on ["a", "b", "c"] (defScope s_p_lies_on) := ⟨rfl, rfl, rfl, by decide +kernel, rfl, by decide +kernel, by decide +kernel⟩
abbrev s_p_sides_of : Stmt := topS 3
abbrev N_p_sides_of : List Str := ["corners", "at", "corner"]
theorem sc_p_sides_of : FnScope N_p_sides_of ["corners"] (defScope s_p_sides_of) := ⟨rfl, rfl, rfl, by decide +kernel, rfl, by decide +kernel, by decide +kernel⟩
abbrev s_p_twice_area_of : Stmt := topS 4
abbrev N_p_twice_area_of : List Str := ["corners", "a", "b"]
theorem sc_p_twice_area_of : FnScope N_p_twice_area_of ["corners"] (defScope s_p_twice_area_of) := ⟨rfl, rfl, rfl, by decide +kernel, rfl, by decide +kernel, by decide +kernel⟩
abbrev s_p_in_order : Stmt := topS 5
abbrev N_p_in_order : List Str := ["corners", "found", "at"]
theorem sc_p_in_order : FnScope N_p_in_order ["corners"] (defScope s_p_in_order) := ⟨rfl, rfl, rfl, by decide +kernel, rfl, by decide +kernel, by decide +kernel⟩
abbrev s_p_moved : Stmt := topS 7
abbrev N_p_moved : List Str := ["plot", "spot", "x", "y"]
theorem sc_p_moved : FnScope N_p_moved ["plot", "spot"] (defScope s_p_moved) := ⟨rfl, rfl, rfl, by decide +kernel, rfl, by decide +kernel, by decide +kernel⟩
abbrev s_p_turned : Stmt := topS 8
abbrev N_p_turned : List Str := ["plot", "x", "y"]
theorem sc_p_turned : FnScope N_p_turned ["plot"] (defScope s_p_turned) := ⟨rfl, rfl, rfl, by decide +kernel, rfl, by decide +kernel, by decide +kernel⟩
abbrev s_p_mirrored : Stmt := topS 9
abbrev N_p_mirrored : List Str := ["plot", "x", "y"]
theorem sc_p_mirrored : FnScope N_p_mirrored ["plot"] (defScope s_p_mirrored) := ⟨rfl, rfl, rfl, by decide +kernel, rfl, by decide +kernel, by decide +kernel⟩
abbrev s_p_sheared : Stmt := topS 10
abbrev N_p_sheared : List Str := ["plot", "by", "x", "y"]
theorem sc_p_sheared : FnScope N_p_sheared ["plot", "by"] (defScope s_p_sheared) := ⟨rfl, rfl, rfl, by decide +kernel, rfl, by decide +kernel, by decide +kernel⟩
abbrev s_p_divisor : Stmt := topS 12
abbrev N_p_divisor : List Str := ["one", "other"]
theorem sc_p_divisor : FnScope N_p_divisor ["one", "other"] (defScope s_p_divisor) := ⟨rfl, rfl, rfl, by decide +kernel, rfl, by decide +kernel, by decide +kernel⟩
abbrev s_p_twice_area : Stmt := topS 13
abbrev N_p_twice_area : List Str := ["plot"]
theorem sc_p_twice_area : FnScope N_p_twice_area ["plot"] (defScope s_p_twice_area) := ⟨rfl, rfl, rfl, by decide +kernel, rfl, by decide +kernel, by decide +kernel⟩
abbrev s_p_fence_stakes : Stmt := topS 14
abbrev N_p_fence_stakes : List Str := ["plot", "a", "b"]
theorem sc_p_fence_stakes : FnScope N_p_fence_stakes ["plot"] (defScope s_p_fence_stakes) := ⟨rfl, rfl, rfl, by decide +kernel, rfl, by decide +kernel, by decide +kernel⟩
abbrev s_p_height : Stmt := topS 16
abbrev N_p_height : List Str := ["spot"]
theorem sc_p_height : FnScope N_p_height ["spot"] (defScope s_p_height) := ⟨rfl, rfl, rfl, by decide +kernel, rfl, by decide +kernel, by decide +kernel⟩
abbrev s_p_where : Stmt := topS 15
abbrev N_p_where : List Str := ["plot", "spot", "inside", "a", "b", "low", "high"]
theorem sc_p_where : FnScope N_p_where ["plot", "spot"] (defScope s_p_where) := ⟨rfl, rfl, rfl, by decide +kernel, rfl, by decide +kernel, by decide +kernel⟩
abbrev s_p_inner_stakes : Stmt := topS 17
abbrev N_p_inner_stakes : List Str := ["plot", "found", "wide", "high", "x", "corner", "y"]
theorem sc_p_inner_stakes : FnScope N_p_inner_stakes ["plot"] (defScope s_p_inner_stakes) := ⟨rfl, rfl, rfl, by decide +kernel, rfl, by decide +kernel, by decide +kernel⟩
abbrev s_l_cell_at : Stmt := topS 19
abbrev N_l_cell_at : List Str := ["_law_script", "_law_k"]
theorem sc_l_cell_at : FnScope N_l_cell_at ["_law_script", "_law_k"] (defScope s_l_cell_at) := ⟨rfl, rfl, rfl, by decide +kernel, rfl, by decide +kernel, by decide +kernel⟩
abbrev s_l_mixed : Stmt := topS 20
abbrev N_l_mixed : List Str := ["_law_script", "_law_k", "_law_drawn_here"]
theorem sc_l_mixed : FnScope N_l_mixed ["_law_script", "_law_k"] (defScope s_l_mixed) := ⟨rfl, rfl, rfl, by decide +kernel, rfl, by decide +kernel, by decide +kernel⟩
abbrev s_l_drawn : Stmt := topS 21
abbrev N_l_drawn : List Str := ["_law_number_here", "_law_k", "_law_drawn_here"]
theorem sc_l_drawn : FnScope N_l_drawn ["_law_number_here", "_law_k"] (defScope s_l_drawn) := ⟨rfl, rfl, rfl, by decide +kernel, rfl, by decide +kernel, by decide +kernel⟩
abbrev s_l_turn : Stmt := topS 23
abbrev N_l_turn : List Str := ["_law_a", "_law_b", "_law_c"]
theorem sc_l_turn : FnScope N_l_turn ["_law_a", "_law_b", "_law_c"] (defScope s_l_turn) := ⟨rfl, rfl, rfl, by decide +kernel, rfl, by decide +kernel, by decide +kernel⟩
abbrev s_l_on : Stmt := topS 24
abbrev N_l_on : List Str := ["_law_a", "_law_b", "_law_c"]
theorem sc_l_on : FnScope N_l_on ["_law_a", "_law_b", "_law_c"] (defScope s_l_on) := ⟨rfl, rfl, rfl, by decide +kernel, rfl, by decide +kernel, by decide +kernel⟩
abbrev s_l_next : Stmt := topS 25
abbrev N_l_next : List Str := ["_law_corners", "_law_at", "_law_by"]
theorem sc_l_next : FnScope N_l_next ["_law_corners", "_law_at", "_law_by"] (defScope s_l_next) := ⟨rfl, rfl, rfl, by decide +kernel, rfl, by decide +kernel, by decide +kernel⟩
abbrev s_l_area : Stmt := topS 26
abbrev N_l_area : List Str := ["_law_corners", "_law_found", "_law_at", "_law_a", "_law_b"]
theorem sc_l_area : FnScope N_l_area ["_law_corners"] (defScope s_l_area) := ⟨rfl, rfl, rfl, by decide +kernel, rfl, by decide +kernel, by decide +kernel⟩
abbrev s_l_in_order : Stmt := topS 27
abbrev N_l_in_order : List Str := ["_law_corners", "_law_found", "_law_at"]
theorem sc_l_in_order : FnScope N_l_in_order ["_law_corners"] (defScope s_l_in_order) := ⟨rfl, rfl, rfl, by decide +kernel, rfl, by decide +kernel, by decide +kernel⟩
abbrev s_l_meet : Stmt := topS 28
abbrev N_l_meet : List Str := ["_law_a", "_law_b", "_law_c", "_law_d"]
theorem sc_l_meet : FnScope N_l_meet ["_law_a", "_law_b", "_law_c", "_law_d"] (defScope s_l_meet) := ⟨rfl, rfl, rfl, by decide +kernel, rfl, by decide +kernel, by decide +kernel⟩
abbrev s_l_turns : Stmt := topS 29
abbrev N_l_turns : List Str := ["_law_corners", "_law_found", "_law_at", "_law_a"]
theorem sc_l_turns : FnScope N_l_turns ["_law_corners"] (defScope s_l_turns) := ⟨rfl, rfl, rfl, by decide +kernel, rfl, by decide +kernel, by decide +kernel⟩
abbrev s_l_is_good : Stmt := topS 30
abbrev N_l_is_good : List Str := ["_law_corners", "_law_many", "_law_one", "_law_other", "_law_c", "_law_d"]
theorem sc_l_is_good : FnScope N_l_is_good ["_law_corners"] (defScope s_l_is_good) := ⟨rfl, rfl, rfl, by decide +kernel, rfl, by decide +kernel, by decide +kernel⟩
abbrev s_l_spots : Stmt := topS 31
abbrev N_l_spots : List Str := ["_law_number_here", "_law_wide", "_law_many", "_law_k"]
theorem sc_l_spots : FnScope N_l_spots ["_law_number_here", "_law_wide", "_law_many"] (defScope s_l_spots) := ⟨rfl, rfl, rfl, by decide +kernel, rfl, by decide +kernel, by decide +kernel⟩
abbrev s_l_saw : Stmt := topS 32
abbrev N_l_saw : List Str := ["_law_number_here", "_law_wide", "_law_lows", "_law_highs", "_law_far", "_law_found", "_law_left", "_law_k", "_law_at", "_law_a"]
theorem sc_l_saw : FnScope N_l_saw ["_law_number_here", "_law_wide"] (defScope s_l_saw) := ⟨rfl, rfl, rfl, by decide +kernel, rfl, by decide +kernel, by decide +kernel⟩
abbrev s_l_plot : Stmt := topS 33
abbrev N_l_plot : List Str := ["_law_number_here", "_law_wide", "_law_found", "_law_by", "_law_x", "_law_y"]
theorem sc_l_plot : FnScope N_l_plot ["_law_number_here", "_law_wide"] (defScope s_l_plot) := ⟨rfl, rfl, rfl, by decide +kernel, rfl, by decide +kernel, by decide +kernel⟩
abbrev s_l_law_k50 : Stmt := topS 34
abbrev N_l_law_k50 : List Str := ["_law_script", "_law_plot_here", "_law_far", "_law_spot", "_law_by", "_law_one", "_law_two", "_law_three", "_law_four", "_law_other", "_law_x", "_law_y"]
theorem sc_l_law_k50 : FnScope N_l_law_k50 ["_law_script"] (defScope s_l_law_k50) := ⟨rfl, rfl, rfl, by decide +kernel, rfl, by decide +kernel, by decide +kernel⟩
structure Adr where
  f_p_turn : Addr
  fd_p_turn : FuncData
  f_p_lies_on : Addr
  fd_p_lies_on : FuncData
  f_p_sides_of : Addr
  fd_p_sides_of : FuncData
  f_p_twice_area_of : Addr
  fd_p_twice_area_of : FuncData
  f_p_in_order : Addr
  fd_p_in_order : FuncData
  f_p_moved : Addr
  fd_p_moved : FuncData
  f_p_turned : Addr
  fd_p_turned : FuncData
  f_p_mirrored : Addr
  fd_p_mirrored : FuncData
  f_p_sheared : Addr
  fd_p_sheared : FuncData
  f_p_divisor : Addr
  fd_p_divisor : FuncData
  f_p_twice_area : Addr
  fd_p_twice_area : FuncData
  f_p_fence_stakes : Addr
  fd_p_fence_stakes : FuncData
  f_p_height : Addr
  fd_p_height : FuncData
  f_p_where : Addr
  fd_p_where : FuncData
  f_p_inner_stakes : Addr
  fd_p_inner_stakes : FuncData
  f_l_cell_at : Addr
  fd_l_cell_at : FuncData
  f_l_mixed : Addr
  fd_l_mixed : FuncData
  f_l_drawn : Addr
  fd_l_drawn : FuncData
  f_l_turn : Addr
  fd_l_turn : FuncData
  f_l_on : Addr
  fd_l_on : FuncData
  f_l_next : Addr
  fd_l_next : FuncData
  f_l_area : Addr
  fd_l_area : FuncData
  f_l_in_order : Addr
  fd_l_in_order : FuncData
  f_l_meet : Addr
  fd_l_meet : FuncData
  f_l_turns : Addr
  fd_l_turns : FuncData
  f_l_is_good : Addr
  fd_l_is_good : FuncData
  f_l_spots : Addr
  fd_l_spots : FuncData
  f_l_saw : Addr
  fd_l_saw : FuncData
  f_l_plot : Addr
  fd_l_plot : FuncData
  f_l_law_k50 : Addr
  fd_l_law_k50 : FuncData
structure Txt (K : PySem.W.Frag) (mg : Str → Option Value) (Cl : Nat → Addr) (a : Adr) : Prop where
  m_abs : mg "abs" = none
  m_enumerate : mg "enumerate" = none
  m_len : mg "len" = none
  m_list : mg "list" = none
  m_max : mg "max" = none
  m_min : mg "min" = none
  m_range : mg "range" = none
  m_set : mg "set" = none
  m_sum : mg "sum" = none
  m_tuple : mg "tuple" = none
  F_p_turn : Fun K "turn" "turn" s_p_turn a.f_p_turn a.fd_p_turn
  g_p_turn : mg "turn" = some (.ref a.f_p_turn)
  b_p_turn : Binds K a.fd_p_turn ["a", "b", "c"] []
  F_p_lies_on : Fun K "lies_on" "lies_on" s_p_lies_on a.f_p_lies_on a.fd_p_lies_on
  g_p_lies_on : mg "lies_on" = some (.ref a.f_p_lies_on)
  b_p_lies_on : Binds K a.fd_p_lies_on ["a", "b", "c"] []
  F_p_sides_of : Fun K "sides_of" "sides_of" s_p_sides_of a.f_p_sides_of a.fd_p_sides_of
  g_p_sides_of : mg "sides_of" = some (.ref a.f_p_sides_of)
  b_p_sides_of : Binds K a.fd_p_sides_of ["corners"] []
  F_p_twice_area_of : Fun K "twice_area_of" "twice_area_of" s_p_twice_area_of a.f_p_twice_area_of a.fd_p_twice_area_of
  g_p_twice_area_of : mg "twice_area_of" = some (.ref a.f_p_twice_area_of)
  b_p_twice_area_of : Binds K a.fd_p_twice_area_of ["corners"] []
  F_p_in_order : Fun K "in_order" "in_order" s_p_in_order a.f_p_in_order a.fd_p_in_order
  g_p_in_order : mg "in_order" = some (.ref a.f_p_in_order)
  b_p_in_order : Binds K a.fd_p_in_order ["corners"] []
  F_p_moved : Fun K "moved" "moved" s_p_moved a.f_p_moved a.fd_p_moved
  g_p_moved : mg "moved" = some (.ref a.f_p_moved)
  b_p_moved : Binds K a.fd_p_moved ["plot", "spot"] []
  F_p_turned : Fun K "turned" "turned" s_p_turned a.f_p_turned a.fd_p_turned
  g_p_turned : mg "turned" = some (.ref a.f_p_turned)
  b_p_turned : Binds K a.fd_p_turned ["plot"] []
  F_p_mirrored : Fun K "mirrored" "mirrored" s_p_mirrored a.f_p_mirrored a.fd_p_mirrored
  g_p_mirrored : mg "mirrored" = some (.ref a.f_p_mirrored)
  b_p_mirrored : Binds K a.fd_p_mirrored ["plot"] []
  F_p_sheared : Fun K "sheared" "sheared" s_p_sheared a.f_p_sheared a.fd_p_sheared
  g_p_sheared : mg "sheared" = some (.ref a.f_p_sheared)
  b_p_sheared : Binds K a.fd_p_sheared ["plot", "by"] []
  F_p_divisor : Fun K "divisor" "divisor" s_p_divisor a.f_p_divisor a.fd_p_divisor
  g_p_divisor : mg "divisor" = some (.ref a.f_p_divisor)
  b_p_divisor : Binds K a.fd_p_divisor ["one", "other"] []
  F_p_twice_area : Fun K "twice_area" "twice_area" s_p_twice_area a.f_p_twice_area a.fd_p_twice_area
  g_p_twice_area : mg "twice_area" = some (.ref a.f_p_twice_area)
  b_p_twice_area : Binds K a.fd_p_twice_area ["plot"] []
  F_p_fence_stakes : Fun K "fence_stakes" "fence_stakes" s_p_fence_stakes a.f_p_fence_stakes a.fd_p_fence_stakes
  g_p_fence_stakes : mg "fence_stakes" = some (.ref a.f_p_fence_stakes)
  b_p_fence_stakes : Binds K a.fd_p_fence_stakes ["plot"] []
  F_p_height : Fun K "height" "height" s_p_height a.f_p_height a.fd_p_height
  g_p_height : mg "height" = some (.ref a.f_p_height)
  b_p_height : Binds K a.fd_p_height ["spot"] []
  F_p_where : Fun K "where" "where" s_p_where a.f_p_where a.fd_p_where
  g_p_where : mg "where" = some (.ref a.f_p_where)
  b_p_where : Binds K a.fd_p_where ["plot", "spot"] []
  F_p_inner_stakes : Fun K "inner_stakes" "inner_stakes" s_p_inner_stakes a.f_p_inner_stakes a.fd_p_inner_stakes
  g_p_inner_stakes : mg "inner_stakes" = some (.ref a.f_p_inner_stakes)
  b_p_inner_stakes : Binds K a.fd_p_inner_stakes ["plot"] []
  F_l_cell_at : Fun K "_law_cell_at" "_law_cell_at" s_l_cell_at a.f_l_cell_at a.fd_l_cell_at
  g_l_cell_at : mg "_law_cell_at" = some (.ref a.f_l_cell_at)
  b_l_cell_at : Binds K a.fd_l_cell_at ["_law_script", "_law_k"] []
  F_l_mixed : Fun K "_law_mixed" "_law_mixed" s_l_mixed a.f_l_mixed a.fd_l_mixed
  g_l_mixed : mg "_law_mixed" = some (.ref a.f_l_mixed)
  b_l_mixed : Binds K a.fd_l_mixed ["_law_script", "_law_k"] []
  F_l_drawn : Fun K "_law_drawn" "_law_drawn" s_l_drawn a.f_l_drawn a.fd_l_drawn
  g_l_drawn : mg "_law_drawn" = some (.ref a.f_l_drawn)
  b_l_drawn : Binds K a.fd_l_drawn ["_law_number_here", "_law_k"] []
  F_l_turn : Fun K "_law_turn" "_law_turn" s_l_turn a.f_l_turn a.fd_l_turn
  g_l_turn : mg "_law_turn" = some (.ref a.f_l_turn)
  b_l_turn : Binds K a.fd_l_turn ["_law_a", "_law_b", "_law_c"] []
  F_l_on : Fun K "_law_on" "_law_on" s_l_on a.f_l_on a.fd_l_on
  g_l_on : mg "_law_on" = some (.ref a.f_l_on)
  b_l_on : Binds K a.fd_l_on ["_law_a", "_law_b", "_law_c"] []
  F_l_next : Fun K "_law_next" "_law_next" s_l_next a.f_l_next a.fd_l_next
  g_l_next : mg "_law_next" = some (.ref a.f_l_next)
  b_l_next : Binds K a.fd_l_next ["_law_corners", "_law_at", "_law_by"] []
  F_l_area : Fun K "_law_area" "_law_area" s_l_area a.f_l_area a.fd_l_area
  g_l_area : mg "_law_area" = some (.ref a.f_l_area)
  b_l_area : Binds K a.fd_l_area ["_law_corners"] []
  F_l_in_order : Fun K "_law_in_order" "_law_in_order" s_l_in_order a.f_l_in_order a.fd_l_in_order
  g_l_in_order : mg "_law_in_order" = some (.ref a.f_l_in_order)
  b_l_in_order : Binds K a.fd_l_in_order ["_law_corners"] []
  F_l_meet : Fun K "_law_meet" "_law_meet" s_l_meet a.f_l_meet a.fd_l_meet
  g_l_meet : mg "_law_meet" = some (.ref a.f_l_meet)
  b_l_meet : Binds K a.fd_l_meet ["_law_a", "_law_b", "_law_c", "_law_d"] []
  F_l_turns : Fun K "_law_turns" "_law_turns" s_l_turns a.f_l_turns a.fd_l_turns
  g_l_turns : mg "_law_turns" = some (.ref a.f_l_turns)
  b_l_turns : Binds K a.fd_l_turns ["_law_corners"] []
  F_l_is_good : Fun K "_law_is_good" "_law_is_good" s_l_is_good a.f_l_is_good a.fd_l_is_good
  g_l_is_good : mg "_law_is_good" = some (.ref a.f_l_is_good)
  b_l_is_good : Binds K a.fd_l_is_good ["_law_corners"] []
  F_l_spots : Fun K "_law_spots" "_law_spots" s_l_spots a.f_l_spots a.fd_l_spots
  g_l_spots : mg "_law_spots" = some (.ref a.f_l_spots)
  b_l_spots : Binds K a.fd_l_spots ["_law_number_here", "_law_wide", "_law_many"] []
  F_l_saw : Fun K "_law_saw" "_law_saw" s_l_saw a.f_l_saw a.fd_l_saw
  g_l_saw : mg "_law_saw" = some (.ref a.f_l_saw)
  b_l_saw : Binds K a.fd_l_saw ["_law_number_here", "_law_wide"] []
  F_l_plot : Fun K "_law_plot" "_law_plot" s_l_plot a.f_l_plot a.fd_l_plot
  g_l_plot : mg "_law_plot" = some (.ref a.f_l_plot)
  b_l_plot : Binds K a.fd_l_plot ["_law_number_here", "_law_wide"] []
  F_l_law_k50 : Fun K "law" "law" s_l_law_k50 a.f_l_law_k50 a.fd_l_law_k50
  g_l_law_k50 : mg "law" = some (.ref a.f_l_law_k50)
  b_l_law_k50 : Binds K a.fd_l_law_k50 ["_law_script"] []
section
variable {P : Program} {w : World} {K : PySem.W.Frag} {mg : Str → Option Value} {base : Heap} {a : Adr}
theorem ok_p_turn (T : Txt K mg Cl a) : FnOk P w K mg base CX0 1 a.f_p_turn a.fd_p_turn ["a", "b", "c"] (spF K Cl 3 m_p_turn) :=
 fn_pure (Cl := Cl) T.F_p_turn sc_p_turn (by decide) fun cdv A outer s H E hr => by
  have nd := sc_p_turn.nd
  exact (sms_one (sm_ret (ex_bin o_sub (ex_bin o_mul (ex_bin o_sub (ex_ix x_ix (ex_var (pv 1)) ex_int (fun _ _ => rfl)) (ex_ix x_ix (ex_var (pv 0)) ex_int (fun _ _ => rfl))) (ex_bin o_sub (ex_ix x_ix (ex_var (pv 2)) ex_int (fun _ _ => rfl)) (ex_ix x_ix (ex_var (pv 0)) ex_int (fun _ _ => rfl)))) (ex_bin o_mul (ex_bin o_sub (ex_ix x_ix (ex_var (pv 1)) ex_int (fun _ _ => rfl)) (ex_ix x_ix (ex_var (pv 0)) ex_int (fun _ _ => rfl))) (ex_bin o_sub (ex_ix x_ix (ex_var (pv 2)) ex_int (fun _ _ => rfl)) (ex_ix x_ix (ex_var (pv 0)) ex_int (fun _ _ => rfl)))))))
theorem ok_p_lies_on (T : Txt K mg Cl a) : FnOk P w K mg base CX0 2 a.f_p_lies_on a.fd_p_lies_on ["a", "b", "c"] (spF K Cl 3 m_p_lies_on) :=
 fn_pure (Cl := Cl) T.F_p_lies_on sc_p_lies_on (by decide) fun cdv A outer s H E hr => by
  have nd := sc_p_lies_on.nd
  exact (sms_cons (sm_if (ts_cmp (o_ne hr.units) (ex_callN (n := 3) (ok_p_turn (Cl := Cl) T) (hr.mono (by decide)) (by rfl) T.g_p_turn T.F_p_turn.kp T.b_p_turn (ar_cons (ex_var (pv 0)) (ar_cons (ex_var (pv 1)) (ar_cons (ex_var (pv 2)) ar_nil))) (arl_cons (arl_cons (arl_cons arl_nil)))) ex_int (nomark _)) (sms_one (sm_ret ex_bl)) sms_nil)
 (sms_one (sm_ret (ex_and (ex_chain o_le o_le (ex_callB (c_min rfl hr.units) (by rfl) T.m_min (by decide +kernel) (ar_cons (ex_ix x_ix (ex_var (pv 0)) ex_int (fun _ _ => rfl)) (ar_cons (ex_ix x_ix (ex_var (pv 1)) ex_int (fun _ _ => rfl)) ar_nil))) (ex_ix x_ix (ex_var (pv 2)) ex_int (fun _ _ => rfl)) (ex_callB (c_max rfl hr.units) (by rfl) T.m_max (by decide +kernel) (ar_cons (ex_ix x_ix (ex_var (pv 0)) ex_int (fun _ _ => rfl)) (ar_cons (ex_ix x_ix (ex_var (pv 1)) ex_int (fun _ _ => rfl)) ar_nil)))) (ex_one (ex_chain o_le o_le (ex_callB (c_min rfl hr.units) (by rfl) T.m_min (by decide +kernel) (ar_cons (ex_ix x_ix (ex_var (pv 0)) ex_int (fun _ _ => rfl)) (ar_cons (ex_ix x_ix (ex_var (pv 1)) ex_int (fun _ _ => rfl)) ar_nil))) (ex_ix x_ix (ex_var (pv 2)) ex_int (fun _ _ => rfl)) (ex_callB (c_max rfl hr.units) (by rfl) T.m_max (by decide +kernel) (ar_cons (ex_ix x_ix (ex_var (pv 0)) ex_int (fun _ _ => rfl)) (ar_cons (ex_ix x_ix (ex_var (pv 1)) ex_int (fun _ _ => rfl)) ar_nil)))))))))
theorem ok_p_sides_of (T : Txt K mg Cl a) : FnOk P w K mg base CX0 1 a.f_p_sides_of a.fd_p_sides_of ["corners"] (spF K Cl 1 m_p_sides_of) :=
 fn_pure (Cl := Cl) T.F_p_sides_of sc_p_sides_of (by decide) fun cdv A outer s H E hr => by
  have nd := sc_p_sides_of.nd
  exact (sms_one (sm_ret (ex_lc (own := [("at", 1), ("corner", 2)]) rfl nd (src_enum (by rfl) T.m_enumerate (ar_cons (ex_var (pv 0)) ar_nil)) (blkOk_by (N := N_p_sides_of) (sc := defScope s_p_sides_of) (by decide +kernel)) (fun _ _ _ _ _ => pg_tup rfl (pgs_cons (pg_name (i := 1) nd rfl (.inl rfl)) (pgs_cons (pg_name (i := 2) nd rfl (.inl rfl)) pgs_nil))) (fun _ _ _ _ _ => pts_nil) (fun _ _ _ _ _ => (ex_tup (ar_cons (ex_var (pv 2)) (ar_cons (ex_ix x_ix (ex_var (pv 0)) (ex_bin o_mod (ex_bin o_add (ex_var (pv 1)) ex_int) (ex_callB c_len (by rfl) T.m_len (by decide +kernel) (ar_cons (ex_var (pv 0)) ar_nil))) (fun _ _ => rfl)) ar_nil)))) (tg_pair (by decide) (by decide)) tt_yes)))
theorem ok_p_twice_area_of (T : Txt K mg Cl a) : FnOk P w K mg base CX0 2 a.f_p_twice_area_of a.fd_p_twice_area_of ["corners"] (spF K Cl 1 m_p_twice_area_of) :=
 fn_pure (Cl := Cl) T.F_p_twice_area_of sc_p_twice_area_of (by decide) fun cdv A outer s H E hr => by
  have nd := sc_p_twice_area_of.nd
  exact (sms_one (sm_ret (ex_callB (c_sum rfl) (by rfl) T.m_sum (by decide +kernel) (ar_cons (ex_lc (own := [("a", 1), ("b", 2)]) rfl nd (src_val (ex_callN (n := 1) (ok_p_sides_of (Cl := Cl) T) (hr.mono (by decide)) (by rfl) T.g_p_sides_of T.F_p_sides_of.kp T.b_p_sides_of (ar_cons (ex_var (pv 0)) ar_nil) (arl_cons arl_nil))) (blkOk_by (N := N_p_twice_area_of) (sc := defScope s_p_twice_area_of) (by decide +kernel)) (fun _ _ _ _ _ => pg_tup rfl (pgs_cons (pg_name (i := 1) nd rfl (.inl rfl)) (pgs_cons (pg_name (i := 2) nd rfl (.inl rfl)) pgs_nil))) (fun _ _ _ _ _ => pts_nil) (fun _ _ _ _ _ => (ex_bin o_sub (ex_bin o_mul (ex_ix x_ix (ex_var (pv 1)) ex_int (fun _ _ => rfl)) (ex_ix x_ix (ex_var (pv 2)) ex_int (fun _ _ => rfl))) (ex_bin o_mul (ex_ix x_ix (ex_var (pv 1)) ex_int (fun _ _ => rfl)) (ex_ix x_ix (ex_var (pv 2)) ex_int (fun _ _ => rfl))))) (tg_pair (by decide) (by decide)) tt_yes) ar_nil))))
theorem ok_p_in_order (T : Txt K mg Cl a) : FnOk P w K mg base CX0 3 a.f_p_in_order a.fd_p_in_order ["corners"] (spF K Cl 1 m_p_in_order) :=
 fn_pure (Cl := Cl) T.F_p_in_order sc_p_in_order (by decide) fun cdv A outer s H E hr => by
  have nd := sc_p_in_order.nd
  exact (sms_cons (sm_set (i := 1) nd rfl (.inl rfl) (ex_callTy c_list (by rfl) T.m_list (by decide +kernel) (ar_cons (ex_var (pv 0)) ar_nil)))
 (sms_cons (sm_if (ts_cmp o_lt (ex_callN (n := 1) (ok_p_twice_area_of (Cl := Cl) T) (hr.mono (by decide)) (by rfl) T.g_p_twice_area_of T.F_p_twice_area_of.kp T.b_p_twice_area_of (ar_cons (ex_var (pv 1)) ar_nil) (arl_cons arl_nil)) ex_int (nomark _)) (sms_one (sm_set (i := 1) nd rfl (.inl rfl) (ex_revL (ex_var (pv 1))))) sms_nil)
 (sms_cons (sm_set (i := 2) nd rfl (.inl rfl) (ex_meth PySem.F.plainAttrs_list PySem.F.slot_list_index PySem.F.type_list_index (m_index (u65 hr)) (ex_var (pv 1)) (ar_cons (ex_callB (c_min rfl hr.units) (by rfl) T.m_min (by decide +kernel) (ar_cons (ex_var (pv 1)) ar_nil)) ar_nil)))
 (sms_one (sm_ret (ex_callTy c_tuple (by rfl) T.m_tuple (by decide +kernel) (ar_cons (ex_bin o_add (ex_slice (ex_var (pv 1)) (op_yes (ex_var (pv 2))) op_no) (ex_slice (ex_var (pv 1)) op_no (op_yes (ex_var (pv 2))))) ar_nil)))))))
theorem ok_p_moved (T : Txt K mg Cl a) : FnOk P w K mg base CX0 4 a.f_p_moved a.fd_p_moved ["plot", "spot"] (spF K Cl 2 m_p_moved) :=
 fn_pure (Cl := Cl) T.F_p_moved sc_p_moved (by decide) fun cdv A outer s H E hr => by
  have nd := sc_p_moved.nd
  exact (sms_one (sm_ret (ex_callN (n := 1) (ok_p_in_order (Cl := Cl) T) (hr.mono (by decide)) (by rfl) T.g_p_in_order T.F_p_in_order.kp T.b_p_in_order (ar_cons (ex_lc (own := [("x", 2), ("y", 3)]) rfl nd (src_val (ex_var (pv 0))) (blkOk_by (N := N_p_moved) (sc := defScope s_p_moved) (by decide +kernel)) (fun _ _ _ _ _ => pg_tup rfl (pgs_cons (pg_name (i := 2) nd rfl (.inl rfl)) (pgs_cons (pg_name (i := 3) nd rfl (.inl rfl)) pgs_nil))) (fun _ _ _ _ _ => pts_nil) (fun _ _ _ _ _ => (ex_tup (ar_cons (ex_bin o_add (ex_var (pv 2)) (ex_ix x_ix (ex_var (pv 1)) ex_int (fun _ _ => rfl))) (ar_cons (ex_bin o_add (ex_var (pv 3)) (ex_ix x_ix (ex_var (pv 1)) ex_int (fun _ _ => rfl))) ar_nil)))) (tg_pair (by decide) (by decide)) tt_yes) ar_nil) (arl_cons arl_nil))))
theorem ok_p_turned (T : Txt K mg Cl a) : FnOk P w K mg base CX0 4 a.f_p_turned a.fd_p_turned ["plot"] (spF K Cl 1 m_p_turned) :=
 fn_pure (Cl := Cl) T.F_p_turned sc_p_turned (by decide) fun cdv A outer s H E hr => by
  have nd := sc_p_turned.nd
  exact (sms_one (sm_ret (ex_callN (n := 1) (ok_p_in_order (Cl := Cl) T) (hr.mono (by decide)) (by rfl) T.g_p_in_order T.F_p_in_order.kp T.b_p_in_order (ar_cons (ex_lc (own := [("x", 1), ("y", 2)]) rfl nd (src_val (ex_var (pv 0))) (blkOk_by (N := N_p_turned) (sc := defScope s_p_turned) (by decide +kernel)) (fun _ _ _ _ _ => pg_tup rfl (pgs_cons (pg_name (i := 1) nd rfl (.inl rfl)) (pgs_cons (pg_name (i := 2) nd rfl (.inl rfl)) pgs_nil))) (fun _ _ _ _ _ => pts_nil) (fun _ _ _ _ _ => (ex_tup (ar_cons (ex_un o_neg (ex_var (pv 2))) (ar_cons (ex_var (pv 1)) ar_nil)))) (tg_pair (by decide) (by decide)) tt_yes) ar_nil) (arl_cons arl_nil))))
theorem ok_p_mirrored (T : Txt K mg Cl a) : FnOk P w K mg base CX0 4 a.f_p_mirrored a.fd_p_mirrored ["plot"] (spF K Cl 1 m_p_mirrored) :=
 fn_pure (Cl := Cl) T.F_p_mirrored sc_p_mirrored (by decide) fun cdv A outer s H E hr => by
  have nd := sc_p_mirrored.nd
  exact (sms_one (sm_ret (ex_callN (n := 1) (ok_p_in_order (Cl := Cl) T) (hr.mono (by decide)) (by rfl) T.g_p_in_order T.F_p_in_order.kp T.b_p_in_order (ar_cons (ex_lc (own := [("x", 1), ("y", 2)]) rfl nd (src_val (ex_var (pv 0))) (blkOk_by (N := N_p_mirrored) (sc := defScope s_p_mirrored) (by decide +kernel)) (fun _ _ _ _ _ => pg_tup rfl (pgs_cons (pg_name (i := 1) nd rfl (.inl rfl)) (pgs_cons (pg_name (i := 2) nd rfl (.inl rfl)) pgs_nil))) (fun _ _ _ _ _ => pts_nil) (fun _ _ _ _ _ => (ex_tup (ar_cons (ex_un o_neg (ex_var (pv 1))) (ar_cons (ex_var (pv 2)) ar_nil)))) (tg_pair (by decide) (by decide)) tt_yes) ar_nil) (arl_cons arl_nil))))
theorem ok_p_sheared (T : Txt K mg Cl a) : FnOk P w K mg base CX0 4 a.f_p_sheared a.fd_p_sheared ["plot", "by"] (spF K Cl 2 m_p_sheared) :=
 fn_pure (Cl := Cl) T.F_p_sheared sc_p_sheared (by decide) fun cdv A outer s H E hr => by
  have nd := sc_p_sheared.nd
  exact (sms_one (sm_ret (ex_callN (n := 1) (ok_p_in_order (Cl := Cl) T) (hr.mono (by decide)) (by rfl) T.g_p_in_order T.F_p_in_order.kp T.b_p_in_order (ar_cons (ex_lc (own := [("x", 2), ("y", 3)]) rfl nd (src_val (ex_var (pv 0))) (blkOk_by (N := N_p_sheared) (sc := defScope s_p_sheared) (by decide +kernel)) (fun _ _ _ _ _ => pg_tup rfl (pgs_cons (pg_name (i := 2) nd rfl (.inl rfl)) (pgs_cons (pg_name (i := 3) nd rfl (.inl rfl)) pgs_nil))) (fun _ _ _ _ _ => pts_nil) (fun _ _ _ _ _ => (ex_tup (ar_cons (ex_bin o_add (ex_var (pv 2)) (ex_bin o_mul (ex_var (pv 1)) (ex_var (pv 3)))) (ar_cons (ex_var (pv 3)) ar_nil)))) (tg_pair (by decide) (by decide)) tt_yes) ar_nil) (arl_cons arl_nil))))
theorem ok_p_divisor (T : Txt K mg Cl a) : FnOk P w K mg base CX0 1 a.f_p_divisor a.fd_p_divisor ["one", "other"] (spF K Cl 2 m_p_divisor) :=
 fn_pure (Cl := Cl) T.F_p_divisor sc_p_divisor (by decide) fun cdv A outer s H E hr => by
  have nd := sc_p_divisor.nd
  exact (sms_cons (sm_while (n := FUEL) PassesOwn.never (ts_cmp (o_ne hr.units) (ex_var (pv 1)) ex_int (nomark _)) (sms_one (sm_par (i := 0) (j := 1) rfl nd rfl rfl (by decide) rfl rfl (ar_cons (ex_var (pv 1)) (ar_cons (ex_bin o_mod (ex_var (pv 0)) (ex_var (pv 1))) ar_nil)) (by rfl))))
 (sms_one (sm_ret (ex_callB c_abs (by rfl) T.m_abs (by decide +kernel) (ar_cons (ex_var (pv 0)) ar_nil)))))
theorem ok_p_twice_area (T : Txt K mg Cl a) : FnOk P w K mg base CX0 3 a.f_p_twice_area a.fd_p_twice_area ["plot"] (spF K Cl 1 m_p_twice_area) :=
 fn_pure (Cl := Cl) T.F_p_twice_area sc_p_twice_area (by decide) fun cdv A outer s H E hr => by
  have nd := sc_p_twice_area.nd
  exact (sms_one (sm_ret (ex_callN (n := 1) (ok_p_twice_area_of (Cl := Cl) T) (hr.mono (by decide)) (by rfl) T.g_p_twice_area_of T.F_p_twice_area_of.kp T.b_p_twice_area_of (ar_cons (ex_var (pv 0)) ar_nil) (arl_cons arl_nil))))
theorem ok_p_fence_stakes (T : Txt K mg Cl a) : FnOk P w K mg base CX0 2 a.f_p_fence_stakes a.fd_p_fence_stakes ["plot"] (spF K Cl 1 m_p_fence_stakes) :=
 fn_pure (Cl := Cl) T.F_p_fence_stakes sc_p_fence_stakes (by decide) fun cdv A outer s H E hr => by
  have nd := sc_p_fence_stakes.nd
  exact (sms_one (sm_ret (ex_callB (c_sum rfl) (by rfl) T.m_sum (by decide +kernel) (ar_cons (ex_lc (own := [("a", 1), ("b", 2)]) rfl nd (src_val (ex_callN (n := 1) (ok_p_sides_of (Cl := Cl) T) (hr.mono (by decide)) (by rfl) T.g_p_sides_of T.F_p_sides_of.kp T.b_p_sides_of (ar_cons (ex_var (pv 0)) ar_nil) (arl_cons arl_nil))) (blkOk_by (N := N_p_fence_stakes) (sc := defScope s_p_fence_stakes) (by decide +kernel)) (fun _ _ _ _ _ => pg_tup rfl (pgs_cons (pg_name (i := 1) nd rfl (.inl rfl)) (pgs_cons (pg_name (i := 2) nd rfl (.inl rfl)) pgs_nil))) (fun _ _ _ _ _ => pts_nil) (fun _ _ _ _ _ => (ex_callN (n := 2) (ok_p_divisor (Cl := Cl) T) (hr.mono (by decide)) (by rfl) T.g_p_divisor T.F_p_divisor.kp T.b_p_divisor (ar_cons (ex_bin o_sub (ex_ix x_ix (ex_var (pv 2)) ex_int (fun _ _ => rfl)) (ex_ix x_ix (ex_var (pv 1)) ex_int (fun _ _ => rfl))) (ar_cons (ex_bin o_sub (ex_ix x_ix (ex_var (pv 2)) ex_int (fun _ _ => rfl)) (ex_ix x_ix (ex_var (pv 1)) ex_int (fun _ _ => rfl))) ar_nil)) (arl_cons (arl_cons arl_nil)))) (tg_pair (by decide) (by decide)) tt_yes) ar_nil))))
theorem ok_p_height (T : Txt K mg Cl a) : FnOk P w K mg base CX0 1 a.f_p_height a.fd_p_height ["spot"] (spF K Cl 1 m_p_height) :=
 fn_pure (Cl := Cl) T.F_p_height sc_p_height (by decide) fun cdv A outer s H E hr => by
  have nd := sc_p_height.nd
  exact (sms_one (sm_ret (ex_ix x_ix (ex_var (pv 0)) ex_int (fun _ _ => rfl))))
theorem ok_p_where (T : Txt K mg Cl a) : FnOk P w K mg base CX0 3 a.f_p_where a.fd_p_where ["plot", "spot"] (spF K Cl 2 m_p_where) :=
 fn_pure (Cl := Cl) T.F_p_where sc_p_where (by decide) fun cdv A outer s H E hr => by
  have nd := sc_p_where.nd
  exact (sms_cons (sm_set (i := 2) nd rfl (.inl rfl) ex_bl)
 (sms_cons (sm_for PassesOwn.never rfl (src_val (ex_callN (n := 1) (ok_p_sides_of (Cl := Cl) T) (hr.mono (by decide)) (by rfl) T.g_p_sides_of T.F_p_sides_of.kp T.b_p_sides_of (ar_cons (ex_var (pv 0)) ar_nil) (arl_cons arl_nil))) (pg_tup rfl (pgs_cons (pg_name (i := 3) nd rfl (.inl rfl)) (pgs_cons (pg_name (i := 4) nd rfl (.inl rfl)) pgs_nil))) tgs_pair (sms_cons (sm_if (ts_val (ex_callN (n := 3) (ok_p_lies_on (Cl := Cl) T) (hr.mono (by decide)) (by rfl) T.g_p_lies_on T.F_p_lies_on.kp T.b_p_lies_on (ar_cons (ex_var (pv 3)) (ar_cons (ex_var (pv 4)) (ar_cons (ex_var (pv 1)) ar_nil))) (arl_cons (arl_cons (arl_cons arl_nil))))) (sms_one (sm_ret ex_str)) sms_nil)
 (sms_cons (sm_set (i := 5) nd rfl (.inl rfl) (ex_min2K rfl (ok_p_height (Cl := Cl) T) (hr.mono (by decide)) T.b_p_height (by rfl) T.m_min (by rfl) T.g_p_height (ex_var (pv 3)) (ex_var (pv 4)) (by decide) rfl rfl (fun _ _ _ h1 h2 h3 => pe_callBK h1 (by rfl) T.m_min (by decide +kernel) h2 h3)))
 (sms_cons (sm_set (i := 6) nd rfl (.inl rfl) (ex_max2K rfl (ok_p_height (Cl := Cl) T) (hr.mono (by decide)) T.b_p_height (by rfl) T.m_max (by rfl) T.g_p_height (ex_var (pv 3)) (ex_var (pv 4)) (by decide) rfl rfl (fun _ _ _ h1 h2 h3 => pe_callBK h1 (by rfl) T.m_max (by decide +kernel) h2 h3)))
 (sms_one (sm_if (ts_w (tw_and (ts_chain o_le o_lt (ex_ix x_ix (ex_var (pv 5)) ex_int (fun _ _ => rfl)) (ex_ix x_ix (ex_var (pv 1)) ex_int (fun _ _ => rfl)) (ex_ix x_ix (ex_var (pv 6)) ex_int (fun _ _ => rfl))) (tw_and1 (ts_cmp o_gt (ex_callN (n := 3) (ok_p_turn (Cl := Cl) T) (hr.mono (by decide)) (by rfl) T.g_p_turn T.F_p_turn.kp T.b_p_turn (ar_cons (ex_var (pv 5)) (ar_cons (ex_var (pv 6)) (ar_cons (ex_var (pv 1)) ar_nil))) (arl_cons (arl_cons (arl_cons arl_nil)))) ex_int (nomark _))))) (sms_one (sm_set (i := 2) nd rfl (.inl rfl) (ex_not (ex_var (pv 2))))) sms_nil))))))
 (sms_cons (sm_if (ts_val (ex_var (pv 2))) (sms_one (sm_ret ex_str)) sms_nil)
 (sms_one (sm_ret ex_str)))))
theorem ok_p_inner_stakes (T : Txt K mg Cl a) : FnOk P w K mg base CX0 4 a.f_p_inner_stakes a.fd_p_inner_stakes ["plot"] (spF K Cl 1 m_p_inner_stakes) :=
 fn_pure (Cl := Cl) T.F_p_inner_stakes sc_p_inner_stakes (by decide) fun cdv A outer s H E hr => by
  have nd := sc_p_inner_stakes.nd
  exact (sms_cons (sm_set (i := 1) nd rfl (.inl rfl) ex_int)
 (sms_cons (sm_setLc (i := 2) (own := [("corner", 5)]) rfl nd rfl rfl (sw_true rfl rfl rfl (by decide +kernel)) (src_val (ex_var (pv 0))) (blkOk_by (N := N_p_inner_stakes) (sc := defScope s_p_inner_stakes) (by decide +kernel)) (fun _ _ _ _ _ => pg_name (i := 5) nd rfl (.inl rfl)) (fun _ _ _ _ _ => pts_nil) (fun _ _ _ _ _ => (ex_ix x_ix (ex_var (pv 5)) ex_int (fun _ _ => rfl))) (tg_name (by decide)) tt_yes)
 (sms_cons (sm_setLc (i := 3) (own := [("corner", 5)]) rfl nd rfl rfl (sw_true rfl rfl rfl (by decide +kernel)) (src_val (ex_var (pv 0))) (blkOk_by (N := N_p_inner_stakes) (sc := defScope s_p_inner_stakes) (by decide +kernel)) (fun _ _ _ _ _ => pg_name (i := 5) nd rfl (.inl rfl)) (fun _ _ _ _ _ => pts_nil) (fun _ _ _ _ _ => (ex_ix x_ix (ex_var (pv 5)) ex_int (fun _ _ => rfl))) (tg_name (by decide)) tt_yes)
 (sms_cons (sm_for PassesOwn.never rfl (src_rng2 (by rfl) T.m_range (ar_cons (ex_callB (c_min rfl hr.units) (by rfl) T.m_min (by decide +kernel) (ar_cons (ex_var (pv 2)) ar_nil)) (ar_cons (ex_bin o_add (ex_callB (c_max rfl hr.units) (by rfl) T.m_max (by decide +kernel) (ar_cons (ex_var (pv 2)) ar_nil)) ex_int) ar_nil))) (pg_name (i := 4) nd rfl (.inr rfl)) tgs_name (sms_one (sm_set (i := 1) nd rfl (.inl rfl) (ex_bin o_add (ex_var (pv 1)) (ex_callB c_len (by rfl) T.m_len (by decide +kernel) (ar_cons (ex_lc (own := [("y", 6)]) rfl nd (src_rng2 (by rfl) T.m_range (ar_cons (ex_callB (c_min rfl hr.units) (by rfl) T.m_min (by decide +kernel) (ar_cons (ex_var (pv 3)) ar_nil)) (ar_cons (ex_bin o_add (ex_callB (c_max rfl hr.units) (by rfl) T.m_max (by decide +kernel) (ar_cons (ex_var (pv 3)) ar_nil)) ex_int) ar_nil))) (blkOk_by (N := N_p_inner_stakes) (sc := defScope s_p_inner_stakes) (by decide +kernel)) (fun _ _ _ _ _ => pg_name (i := 6) nd rfl (.inl rfl)) (fun _ _ _ _ _ => pts_one ((ts_cmp (o_eq hr.units) (ex_callN (n := 2) (ok_p_where (Cl := Cl) T) (hr.mono (by decide)) (by rfl) T.g_p_where T.F_p_where.kp T.b_p_where (ar_cons (ex_var (pv 0)) (ar_cons (ex_tup (ar_cons (ex_var (pv 4)) (ar_cons (ex_var (pv 6)) ar_nil))) ar_nil)) (arl_cons (arl_cons arl_nil))) ex_str (nomark _)) : Ts _ W0 _ _).run) (fun _ _ _ _ _ => (ex_var (pv 6))) (tg_name (by decide)) (fun _ _ _ h => h)) ar_nil))))))
 (sms_one (sm_ret (ex_var (pv 1))))))))
theorem ok_l_cell_at (T : Txt K mg Cl a) : FnOk P w K mg base CX0 1 a.f_l_cell_at a.fd_l_cell_at ["_law_script", "_law_k"] (spF K Cl 2 m_l_cell_at) :=
 fn_pure (Cl := Cl) T.F_l_cell_at sc_l_cell_at (by decide) fun cdv A outer s H E hr => by
  have nd := sc_l_cell_at.nd
  exact (sms_cons (sm_if (ts_cmp o_lt (ex_var (pv 1)) (ex_callB c_len (by rfl) T.m_len (by decide +kernel) (ar_cons (ex_var (pv 0)) ar_nil)) (nomark _)) (sms_one (sm_ret (ex_ix x_ix (ex_var (pv 0)) (ex_var (pv 1)) (fun _ _ => rfl)))) sms_nil)
 (sms_one (sm_ret ex_int)))
theorem ok_l_mixed (T : Txt K mg Cl a) : FnOk P w K mg base CX0 2 a.f_l_mixed a.fd_l_mixed ["_law_script", "_law_k"] (spF K Cl 2 m_l_mixed) :=
 fn_pure (Cl := Cl) T.F_l_mixed sc_l_mixed (by decide) fun cdv A outer s H E hr => by
  have nd := sc_l_mixed.nd
  exact (sms_cons (sm_set (i := 2) nd rfl (.inl rfl) (ex_bin o_mod (ex_bin o_mul (ex_bin o_add (ex_bin o_add (ex_callN (n := 2) (ok_l_cell_at (Cl := Cl) T) (hr.mono (by decide)) (by rfl) T.g_l_cell_at T.F_l_cell_at.kp T.b_l_cell_at (ar_cons (ex_var (pv 0)) (ar_cons (ex_var (pv 1)) ar_nil)) (arl_cons (arl_cons arl_nil))) (ex_bin o_mul ex_int (ex_var (pv 1)))) ex_int) ex_int) ex_int))
 (sms_one (sm_ret (ex_bin o_mod (ex_bin o_add (ex_bin o_add (ex_bin o_mul (ex_var (pv 2)) (ex_var (pv 2))) (ex_bin o_mul ex_int (ex_var (pv 2)))) (ex_var (pv 1))) ex_int))))
theorem ok_l_drawn (T : Txt K mg Cl a) : FnOk P w K mg base CX0 1 a.f_l_drawn a.fd_l_drawn ["_law_number_here", "_law_k"] (spF K Cl 2 m_l_drawn) :=
 fn_pure (Cl := Cl) T.F_l_drawn sc_l_drawn (by decide) fun cdv A outer s H E hr => by
  have nd := sc_l_drawn.nd
  exact (sms_cons (sm_set (i := 2) nd rfl (.inl rfl) (ex_bin o_mod (ex_bin o_mul (ex_bin o_add (ex_bin o_add (ex_var (pv 0)) (ex_bin o_mul ex_int (ex_var (pv 1)))) ex_int) ex_int) ex_int))
 (sms_one (sm_ret (ex_bin o_mod (ex_bin o_add (ex_bin o_add (ex_bin o_mul (ex_var (pv 2)) (ex_var (pv 2))) (ex_bin o_mul ex_int (ex_var (pv 2)))) (ex_var (pv 1))) ex_int))))
theorem ok_l_turn (T : Txt K mg Cl a) : FnOk P w K mg base CX0 1 a.f_l_turn a.fd_l_turn ["_law_a", "_law_b", "_law_c"] (spF K Cl 3 m_l_turn) :=
 fn_pure (Cl := Cl) T.F_l_turn sc_l_turn (by decide) fun cdv A outer s H E hr => by
  have nd := sc_l_turn.nd
  exact (sms_one (sm_ret (ex_bin o_sub (ex_bin o_mul (ex_bin o_sub (ex_ix x_ix (ex_var (pv 1)) ex_int (fun _ _ => rfl)) (ex_ix x_ix (ex_var (pv 0)) ex_int (fun _ _ => rfl))) (ex_bin o_sub (ex_ix x_ix (ex_var (pv 2)) ex_int (fun _ _ => rfl)) (ex_ix x_ix (ex_var (pv 0)) ex_int (fun _ _ => rfl)))) (ex_bin o_mul (ex_bin o_sub (ex_ix x_ix (ex_var (pv 1)) ex_int (fun _ _ => rfl)) (ex_ix x_ix (ex_var (pv 0)) ex_int (fun _ _ => rfl))) (ex_bin o_sub (ex_ix x_ix (ex_var (pv 2)) ex_int (fun _ _ => rfl)) (ex_ix x_ix (ex_var (pv 0)) ex_int (fun _ _ => rfl)))))))
theorem ok_l_on (T : Txt K mg Cl a) : FnOk P w K mg base CX0 2 a.f_l_on a.fd_l_on ["_law_a", "_law_b", "_law_c"] (spF K Cl 3 m_l_on) :=
 fn_pure (Cl := Cl) T.F_l_on sc_l_on (by decide) fun cdv A outer s H E hr => by
  have nd := sc_l_on.nd
  exact (sms_cons (sm_if (ts_cmp (o_ne hr.units) (ex_callN (n := 3) (ok_l_turn (Cl := Cl) T) (hr.mono (by decide)) (by rfl) T.g_l_turn T.F_l_turn.kp T.b_l_turn (ar_cons (ex_var (pv 0)) (ar_cons (ex_var (pv 1)) (ar_cons (ex_var (pv 2)) ar_nil))) (arl_cons (arl_cons (arl_cons arl_nil)))) ex_int (nomark _)) (sms_one (sm_ret ex_bl)) sms_nil)
 (sms_one (sm_ret (ex_and (ex_chain o_le o_le (ex_callB (c_min rfl hr.units) (by rfl) T.m_min (by decide +kernel) (ar_cons (ex_ix x_ix (ex_var (pv 0)) ex_int (fun _ _ => rfl)) (ar_cons (ex_ix x_ix (ex_var (pv 1)) ex_int (fun _ _ => rfl)) ar_nil))) (ex_ix x_ix (ex_var (pv 2)) ex_int (fun _ _ => rfl)) (ex_callB (c_max rfl hr.units) (by rfl) T.m_max (by decide +kernel) (ar_cons (ex_ix x_ix (ex_var (pv 0)) ex_int (fun _ _ => rfl)) (ar_cons (ex_ix x_ix (ex_var (pv 1)) ex_int (fun _ _ => rfl)) ar_nil)))) (ex_one (ex_chain o_le o_le (ex_callB (c_min rfl hr.units) (by rfl) T.m_min (by decide +kernel) (ar_cons (ex_ix x_ix (ex_var (pv 0)) ex_int (fun _ _ => rfl)) (ar_cons (ex_ix x_ix (ex_var (pv 1)) ex_int (fun _ _ => rfl)) ar_nil))) (ex_ix x_ix (ex_var (pv 2)) ex_int (fun _ _ => rfl)) (ex_callB (c_max rfl hr.units) (by rfl) T.m_max (by decide +kernel) (ar_cons (ex_ix x_ix (ex_var (pv 0)) ex_int (fun _ _ => rfl)) (ar_cons (ex_ix x_ix (ex_var (pv 1)) ex_int (fun _ _ => rfl)) ar_nil)))))))))
theorem ok_l_next (T : Txt K mg Cl a) : FnOk P w K mg base CX0 1 a.f_l_next a.fd_l_next ["_law_corners", "_law_at", "_law_by"] (spF K Cl 3 m_l_next) :=
 fn_pure (Cl := Cl) T.F_l_next sc_l_next (by decide) fun cdv A outer s H E hr => by
  have nd := sc_l_next.nd
  exact (sms_one (sm_ret (ex_ix x_ix (ex_var (pv 0)) (ex_bin o_mod (ex_bin o_add (ex_var (pv 1)) (ex_var (pv 2))) (ex_callB c_len (by rfl) T.m_len (by decide +kernel) (ar_cons (ex_var (pv 0)) ar_nil))) (fun _ _ => rfl))))
theorem ok_l_area (T : Txt K mg Cl a) : FnOk P w K mg base CX0 2 a.f_l_area a.fd_l_area ["_law_corners"] (spF K Cl 1 m_l_area) :=
 fn_pure (Cl := Cl) T.F_l_area sc_l_area (by decide) fun cdv A outer s H E hr => by
  have nd := sc_l_area.nd
  exact (sms_cons (sm_set (i := 1) nd rfl (.inl rfl) ex_int)
 (sms_cons (sm_for PassesOwn.never rfl (src_enum (by rfl) T.m_enumerate (ar_cons (ex_var (pv 0)) ar_nil)) (pg_tup rfl (pgs_cons (pg_name (i := 2) nd rfl (.inl rfl)) (pgs_cons (pg_name (i := 3) nd rfl (.inl rfl)) pgs_nil))) tgs_pair (sms_cons (sm_set (i := 4) nd rfl (.inl rfl) (ex_callN (n := 3) (ok_l_next (Cl := Cl) T) (hr.mono (by decide)) (by rfl) T.g_l_next T.F_l_next.kp T.b_l_next (ar_cons (ex_var (pv 0)) (ar_cons (ex_var (pv 2)) (ar_cons ex_int ar_nil))) (arl_cons (arl_cons (arl_cons arl_nil)))))
 (sms_one (sm_set (i := 1) nd rfl (.inl rfl) (ex_bin o_sub (ex_bin o_add (ex_var (pv 1)) (ex_bin o_mul (ex_ix x_ix (ex_var (pv 3)) ex_int (fun _ _ => rfl)) (ex_ix x_ix (ex_var (pv 4)) ex_int (fun _ _ => rfl)))) (ex_bin o_mul (ex_ix x_ix (ex_var (pv 3)) ex_int (fun _ _ => rfl)) (ex_ix x_ix (ex_var (pv 4)) ex_int (fun _ _ => rfl))))))))
 (sms_one (sm_ret (ex_var (pv 1))))))
theorem ok_l_in_order (T : Txt K mg Cl a) : FnOk P w K mg base CX0 3 a.f_l_in_order a.fd_l_in_order ["_law_corners"] (spF K Cl 1 m_l_in_order) :=
 fn_pure (Cl := Cl) T.F_l_in_order sc_l_in_order (by decide) fun cdv A outer s H E hr => by
  have nd := sc_l_in_order.nd
  exact (sms_cons (sm_set (i := 1) nd rfl (.inl rfl) (ex_callTy c_list (by rfl) T.m_list (by decide +kernel) (ar_cons (ex_var (pv 0)) ar_nil)))
 (sms_cons (sm_if (ts_cmp o_lt (ex_callN (n := 1) (ok_l_area (Cl := Cl) T) (hr.mono (by decide)) (by rfl) T.g_l_area T.F_l_area.kp T.b_l_area (ar_cons (ex_var (pv 1)) ar_nil) (arl_cons arl_nil)) ex_int (nomark _)) (sms_one (sm_set (i := 1) nd rfl (.inl rfl) (ex_revL (ex_var (pv 1))))) sms_nil)
 (sms_cons (sm_set (i := 2) nd rfl (.inl rfl) (ex_meth PySem.F.plainAttrs_list PySem.F.slot_list_index PySem.F.type_list_index (m_index (u65 hr)) (ex_var (pv 1)) (ar_cons (ex_callB (c_min rfl hr.units) (by rfl) T.m_min (by decide +kernel) (ar_cons (ex_var (pv 1)) ar_nil)) ar_nil)))
 (sms_one (sm_ret (ex_callTy c_tuple (by rfl) T.m_tuple (by decide +kernel) (ar_cons (ex_bin o_add (ex_slice (ex_var (pv 1)) (op_yes (ex_var (pv 2))) op_no) (ex_slice (ex_var (pv 1)) op_no (op_yes (ex_var (pv 2))))) ar_nil)))))))
theorem ok_l_meet (T : Txt K mg Cl a) : FnOk P w K mg base CX0 3 a.f_l_meet a.fd_l_meet ["_law_a", "_law_b", "_law_c", "_law_d"] (spF K Cl 4 m_l_meet) :=
 fn_pure (Cl := Cl) T.F_l_meet sc_l_meet (by decide) fun cdv A outer s H E hr => by
  have nd := sc_l_meet.nd
  exact (sms_cons (sm_if (ts_w (tw_or (ts_val (ex_callN (n := 3) (ok_l_on (Cl := Cl) T) (hr.mono (by decide)) (by rfl) T.g_l_on T.F_l_on.kp T.b_l_on (ar_cons (ex_var (pv 0)) (ar_cons (ex_var (pv 1)) (ar_cons (ex_var (pv 2)) ar_nil))) (arl_cons (arl_cons (arl_cons arl_nil))))) (tw_or (ts_val (ex_callN (n := 3) (ok_l_on (Cl := Cl) T) (hr.mono (by decide)) (by rfl) T.g_l_on T.F_l_on.kp T.b_l_on (ar_cons (ex_var (pv 0)) (ar_cons (ex_var (pv 1)) (ar_cons (ex_var (pv 3)) ar_nil))) (arl_cons (arl_cons (arl_cons arl_nil))))) (tw_or (ts_val (ex_callN (n := 3) (ok_l_on (Cl := Cl) T) (hr.mono (by decide)) (by rfl) T.g_l_on T.F_l_on.kp T.b_l_on (ar_cons (ex_var (pv 2)) (ar_cons (ex_var (pv 3)) (ar_cons (ex_var (pv 0)) ar_nil))) (arl_cons (arl_cons (arl_cons arl_nil))))) (tw_or1 (ts_val (ex_callN (n := 3) (ok_l_on (Cl := Cl) T) (hr.mono (by decide)) (by rfl) T.g_l_on T.F_l_on.kp T.b_l_on (ar_cons (ex_var (pv 2)) (ar_cons (ex_var (pv 3)) (ar_cons (ex_var (pv 1)) ar_nil))) (arl_cons (arl_cons (arl_cons arl_nil)))))))))) (sms_one (sm_ret ex_bl)) sms_nil)
 (sms_cons (sm_if (ts_cmp o_ge (ex_bin o_mul (ex_callN (n := 3) (ok_l_turn (Cl := Cl) T) (hr.mono (by decide)) (by rfl) T.g_l_turn T.F_l_turn.kp T.b_l_turn (ar_cons (ex_var (pv 0)) (ar_cons (ex_var (pv 1)) (ar_cons (ex_var (pv 2)) ar_nil))) (arl_cons (arl_cons (arl_cons arl_nil)))) (ex_callN (n := 3) (ok_l_turn (Cl := Cl) T) (hr.mono (by decide)) (by rfl) T.g_l_turn T.F_l_turn.kp T.b_l_turn (ar_cons (ex_var (pv 0)) (ar_cons (ex_var (pv 1)) (ar_cons (ex_var (pv 3)) ar_nil))) (arl_cons (arl_cons (arl_cons arl_nil))))) ex_int (nomark _)) (sms_one (sm_ret ex_bl)) sms_nil)
 (sms_one (sm_ret (ex_cmp o_lt (ex_bin o_mul (ex_callN (n := 3) (ok_l_turn (Cl := Cl) T) (hr.mono (by decide)) (by rfl) T.g_l_turn T.F_l_turn.kp T.b_l_turn (ar_cons (ex_var (pv 2)) (ar_cons (ex_var (pv 3)) (ar_cons (ex_var (pv 0)) ar_nil))) (arl_cons (arl_cons (arl_cons arl_nil)))) (ex_callN (n := 3) (ok_l_turn (Cl := Cl) T) (hr.mono (by decide)) (by rfl) T.g_l_turn T.F_l_turn.kp T.b_l_turn (ar_cons (ex_var (pv 2)) (ar_cons (ex_var (pv 3)) (ar_cons (ex_var (pv 1)) ar_nil))) (arl_cons (arl_cons (arl_cons arl_nil))))) ex_int (nomark _))))))
theorem ok_l_turns (T : Txt K mg Cl a) : FnOk P w K mg base CX0 2 a.f_l_turns a.fd_l_turns ["_law_corners"] (spF K Cl 1 m_l_turns) :=
 fn_pure (Cl := Cl) T.F_l_turns sc_l_turns (by decide) fun cdv A outer s H E hr => by
  have nd := sc_l_turns.nd
  exact (sms_cons (sm_nil (i := 1) nd rfl (.inl rfl))
 (sms_cons (sm_for PassesOwn.never rfl (src_enum (by rfl) T.m_enumerate (ar_cons (ex_var (pv 0)) ar_nil)) (pg_tup rfl (pgs_cons (pg_name (i := 2) nd rfl (.inl rfl)) (pgs_cons (pg_name (i := 3) nd rfl (.inl rfl)) pgs_nil))) tgs_pair (sms_one (sm_app (pe_bm PySem.F.plainAttrs_list PySem.F.slot_list_append PySem.F.type_list_append mt_append (pv 1) (pa_cons (ex_callN (n := 3) (ok_l_turn (Cl := Cl) T) (hr.mono (by decide)) (by rfl) T.g_l_turn T.F_l_turn.kp T.b_l_turn (ar_cons (ex_var (pv 3)) (ar_cons (ex_callN (n := 3) (ok_l_next (Cl := Cl) T) (hr.mono (by decide)) (by rfl) T.g_l_next T.F_l_next.kp T.b_l_next (ar_cons (ex_var (pv 0)) (ar_cons (ex_var (pv 2)) (ar_cons ex_int ar_nil))) (arl_cons (arl_cons (arl_cons arl_nil)))) (ar_cons (ex_callN (n := 3) (ok_l_next (Cl := Cl) T) (hr.mono (by decide)) (by rfl) T.g_l_next T.F_l_next.kp T.b_l_next (ar_cons (ex_var (pv 0)) (ar_cons (ex_var (pv 2)) (ar_cons ex_int ar_nil))) (arl_cons (arl_cons (arl_cons arl_nil)))) ar_nil))) (arl_cons (arl_cons (arl_cons arl_nil)))).run pa_nil)))))
 (sms_one (sm_ret (ex_var (pv 1))))))
theorem ok_l_is_good (T : Txt K mg Cl a) : FnOk P w K mg base CX0 4 a.f_l_is_good a.fd_l_is_good ["_law_corners"] (spF K Cl 1 m_l_is_good) :=
 fn_pure (Cl := Cl) T.F_l_is_good sc_l_is_good (by decide) fun cdv A outer s H E hr => by
  have nd := sc_l_is_good.nd
  exact (sms_cons (sm_set (i := 1) nd rfl (.inl rfl) (ex_callB c_len (by rfl) T.m_len (by decide +kernel) (ar_cons (ex_var (pv 0)) ar_nil)))
 (sms_cons (sm_if (ts_w (tw_or (ts_cmp o_lt (ex_lenSet rfl hr.units (by rfl) T.m_len (by rfl) T.m_set (ex_var (pv 0))) (ex_var (pv 1)) (nomark _)) (tw_or1 (ts_cmp (o_in hr.units) ex_int (ex_callN (n := 1) (ok_l_turns (Cl := Cl) T) (hr.mono (by decide)) (by rfl) T.g_l_turns T.F_l_turns.kp T.b_l_turns (ar_cons (ex_var (pv 0)) ar_nil) (arl_cons arl_nil)) (by rfl))))) (sms_one (sm_ret ex_bl)) sms_nil)
 (sms_cons (sm_for PassesOwn.never rfl (src_rng1 (by rfl) T.m_range (ar_cons (ex_var (pv 1)) ar_nil)) (pg_name (i := 2) nd rfl (.inl rfl)) tgs_name (sms_one (sm_for PassesOwn.never rfl (src_rng2 (by rfl) T.m_range (ar_cons (ex_bin o_add (ex_var (pv 2)) ex_int) (ar_cons (ex_var (pv 1)) ar_nil))) (pg_name (i := 3) nd rfl (.inl rfl)) tgs_name (sms_one (sm_if (ts_cmp (o_ne hr.units) (ex_bin o_mod (ex_bin o_add (ex_var (pv 3)) ex_int) (ex_var (pv 1))) (ex_var (pv 2)) (nomark _)) (sms_cons (sm_set (i := 4) nd rfl (.inl rfl) (ex_ix x_ix (ex_var (pv 0)) (ex_var (pv 3)) (fun _ _ => rfl)))
 (sms_cons (sm_set (i := 5) nd rfl (.inl rfl) (ex_callN (n := 3) (ok_l_next (Cl := Cl) T) (hr.mono (by decide)) (by rfl) T.g_l_next T.F_l_next.kp T.b_l_next (ar_cons (ex_var (pv 0)) (ar_cons (ex_var (pv 3)) (ar_cons ex_int ar_nil))) (arl_cons (arl_cons (arl_cons arl_nil)))))
 (sms_one (sm_if (ts_val (ex_callN (n := 4) (ok_l_meet (Cl := Cl) T) (hr.mono (by decide)) (by rfl) T.g_l_meet T.F_l_meet.kp T.b_l_meet (ar_cons (ex_ix x_ix (ex_var (pv 0)) (ex_var (pv 2)) (fun _ _ => rfl)) (ar_cons (ex_callN (n := 3) (ok_l_next (Cl := Cl) T) (hr.mono (by decide)) (by rfl) T.g_l_next T.F_l_next.kp T.b_l_next (ar_cons (ex_var (pv 0)) (ar_cons (ex_var (pv 2)) (ar_cons ex_int ar_nil))) (arl_cons (arl_cons (arl_cons arl_nil)))) (ar_cons (ex_var (pv 4)) (ar_cons (ex_var (pv 5)) ar_nil)))) (arl_cons (arl_cons (arl_cons (arl_cons arl_nil)))))) (sms_one (sm_ret ex_bl)) sms_nil)))) sms_nil)))))
 (sms_one (sm_ret ex_bl)))))
theorem ok_l_spots (T : Txt K mg Cl a) : FnOk P w K mg base CX0 2 a.f_l_spots a.fd_l_spots ["_law_number_here", "_law_wide", "_law_many"] (spF K Cl 3 m_l_spots) :=
 fn_pure (Cl := Cl) T.F_l_spots sc_l_spots (by decide) fun cdv A outer s H E hr => by
  have nd := sc_l_spots.nd
  exact (sms_one (sm_ret (ex_lc (own := [("_law_k", 3)]) rfl nd (src_rng1 (by rfl) T.m_range (ar_cons (ex_var (pv 2)) ar_nil)) (blkOk_by (N := N_l_spots) (sc := defScope s_l_spots) (by decide +kernel)) (fun _ _ _ _ _ => pg_name (i := 3) nd rfl (.inl rfl)) (fun _ _ _ _ _ => pts_nil) (fun _ _ _ _ _ => (ex_tup (ar_cons (ex_bin o_mod (ex_callN (n := 2) (ok_l_drawn (Cl := Cl) T) (hr.mono (by decide)) (by rfl) T.g_l_drawn T.F_l_drawn.kp T.b_l_drawn (ar_cons (ex_var (pv 0)) (ar_cons (ex_bin o_mul ex_int (ex_var (pv 3))) ar_nil)) (arl_cons (arl_cons arl_nil))) (ex_var (pv 1))) (ar_cons (ex_bin o_mod (ex_callN (n := 2) (ok_l_drawn (Cl := Cl) T) (hr.mono (by decide)) (by rfl) T.g_l_drawn T.F_l_drawn.kp T.b_l_drawn (ar_cons (ex_var (pv 0)) (ar_cons (ex_bin o_add (ex_bin o_mul ex_int (ex_var (pv 3))) ex_int) ar_nil)) (arl_cons (arl_cons arl_nil))) (ex_var (pv 1))) ar_nil)))) (tg_name (by decide)) tt_yes)))
theorem ok_l_saw (T : Txt K mg Cl a) : FnOk P w K mg base CX0 2 a.f_l_saw a.fd_l_saw ["_law_number_here", "_law_wide"] (spF K Cl 2 m_l_saw) :=
 fn_pure (Cl := Cl) T.F_l_saw sc_l_saw (by decide) fun cdv A outer s H E hr => by
  have nd := sc_l_saw.nd
  exact (sms_cons (sm_set (i := 2) nd rfl (.inl rfl) (ex_bin o_add ex_int (ex_bin o_mod (ex_var (pv 0)) ex_int)))
 (sms_cons (sm_set (i := 3) nd rfl (.inl rfl) (ex_bin o_add ex_int (ex_bin o_mod (ex_bin o_div (ex_var (pv 0)) ex_int) ex_int)))
 (sms_cons (sm_set (i := 4) nd rfl (.inr rfl) (ex_bin o_add ex_int (ex_callB (c_max rfl hr.units) (by rfl) T.m_max (by decide +kernel) (ar_cons (ex_var (pv 2)) (ar_cons (ex_var (pv 3)) ar_nil)))))
 (sms_cons (sm_set (i := 5) nd rfl (.inl rfl) (ex_bin o_add (ex_bin o_add (ex_lst (ar_cons (ex_tup (ar_cons ex_int (ar_cons ex_int ar_nil))) ar_nil)) (ex_lc (own := [("_law_k", 7)]) rfl nd (src_rng1 (by rfl) T.m_range (ar_cons (ex_var (pv 2)) ar_nil)) (blkOk_by (N := N_l_saw) (sc := defScope s_l_saw) (by decide +kernel)) (fun _ _ _ _ _ => pg_name (i := 7) nd rfl (.inl rfl)) (fun _ _ _ _ _ => pts_nil) (fun _ _ _ _ _ => (ex_tup (ar_cons (ex_bin o_add ex_int (ex_var (pv 7))) (ar_cons (ex_bin o_sub (ex_un o_neg ex_int) (ex_bin o_mod (ex_callN (n := 2) (ok_l_drawn (Cl := Cl) T) (hr.mono (by decide)) (by rfl) T.g_l_drawn T.F_l_drawn.kp T.b_l_drawn (ar_cons (ex_var (pv 0)) (ar_cons (ex_var (pv 7)) ar_nil)) (arl_cons (arl_cons arl_nil))) (ex_var (pv 1)))) ar_nil)))) (tg_name (by decide)) tt_yes)) (ex_lst (ar_cons (ex_tup (ar_cons (ex_var (pv 4)) (ar_cons ex_int ar_nil))) ar_nil))))
 (sms_cons (sm_set (i := 5) nd rfl (.inl rfl) (ex_bin o_add (ex_var (pv 5)) (ex_lc (own := [("_law_k", 7)]) rfl nd (src_rng1 (by rfl) T.m_range (ar_cons (ex_var (pv 3)) ar_nil)) (blkOk_by (N := N_l_saw) (sc := defScope s_l_saw) (by decide +kernel)) (fun _ _ _ _ _ => pg_name (i := 7) nd rfl (.inl rfl)) (fun _ _ _ _ _ => pts_nil) (fun _ _ _ _ _ => (ex_tup (ar_cons (ex_bin o_sub (ex_bin o_sub (ex_var (pv 4)) ex_int) (ex_var (pv 7))) (ar_cons (ex_bin o_add ex_int (ex_bin o_mod (ex_callN (n := 2) (ok_l_drawn (Cl := Cl) T) (hr.mono (by decide)) (by rfl) T.g_l_drawn T.F_l_drawn.kp T.b_l_drawn (ar_cons (ex_var (pv 0)) (ar_cons (ex_bin o_add ex_int (ex_var (pv 7))) ar_nil)) (arl_cons (arl_cons arl_nil))) (ex_var (pv 1)))) ar_nil)))) (tg_name (by decide)) tt_yes)))
 (sms_cons (sm_set (i := 6) nd rfl (.inr rfl) (ex_lst ar_nil))
 (sms_cons (sm_while (n := FUEL) PassesOwn.never (ts_cmp (o_ne hr.units) (ex_callB c_len (by rfl) T.m_len (by decide +kernel) (ar_cons (ex_var (pv 6)) ar_nil)) (ex_callB c_len (by rfl) T.m_len (by decide +kernel) (ar_cons (ex_var (pv 5)) ar_nil)) (nomark _)) (sms_cons (sm_set (i := 6) nd rfl (.inr rfl) (ex_var (pv 5)))
 (sms_one (sm_setLc (i := 5) (own := [("_law_at", 8), ("_law_a", 9)]) rfl nd rfl rfl (sw_true rfl rfl rfl (by decide +kernel)) (src_enum (by rfl) T.m_enumerate (ar_cons (ex_var (pv 6)) ar_nil)) (blkOk_by (N := N_l_saw) (sc := defScope s_l_saw) (by decide +kernel)) (fun _ _ _ _ _ => pg_tup rfl (pgs_cons (pg_name (i := 8) nd rfl (.inl rfl)) (pgs_cons (pg_name (i := 9) nd rfl (.inl rfl)) pgs_nil))) (fun _ _ _ _ _ => pts_one ((ts_cmp (o_ne hr.units) (ex_callN (n := 3) (ok_l_turn (Cl := Cl) T) (hr.mono (by decide)) (by rfl) T.g_l_turn T.F_l_turn.kp T.b_l_turn (ar_cons (ex_ix x_ix (ex_var (pv 6)) (ex_bin o_sub (ex_var (pv 8)) ex_int) (fun _ _ => rfl)) (ar_cons (ex_var (pv 9)) (ar_cons (ex_callN (n := 3) (ok_l_next (Cl := Cl) T) (hr.mono (by decide)) (by rfl) T.g_l_next T.F_l_next.kp T.b_l_next (ar_cons (ex_var (pv 6)) (ar_cons (ex_var (pv 8)) (ar_cons ex_int ar_nil))) (arl_cons (arl_cons (arl_cons arl_nil)))) ar_nil))) (arl_cons (arl_cons (arl_cons arl_nil)))) ex_int (nomark _)) : Ts _ W0 _ _).run) (fun _ _ _ _ _ => (ex_var (pv 9))) (tg_pair (by decide) (by decide)) (fun _ _ _ h => h)))))
 (sms_one (sm_ret (ex_var (pv 5)))))))))))
theorem ok_l_plot (T : Txt K mg Cl a) : FnOk P w K mg base CX0 5 a.f_l_plot a.fd_l_plot ["_law_number_here", "_law_wide"] (spF K Cl 2 m_l_plot) :=
 fn_pure (Cl := Cl) T.F_l_plot sc_l_plot (by decide) fun cdv A outer s H E hr => by
  have nd := sc_l_plot.nd
  exact (sms_cons (sm_set (i := 2) nd rfl (.inl rfl) (ex_callN (n := 3) (ok_l_spots (Cl := Cl) T) (hr.mono (by decide)) (by rfl) T.g_l_spots T.F_l_spots.kp T.b_l_spots (ar_cons (ex_bin o_div (ex_var (pv 0)) ex_int) (ar_cons (ex_var (pv 1)) (ar_cons (ex_bin o_add ex_int (ex_bin o_mod (ex_bin o_div (ex_var (pv 0)) ex_int) ex_int)) ar_nil))) (arl_cons (arl_cons (arl_cons arl_nil)))))
 (sms_cons (sm_if (ts_w (tw_or (ts_cmp (o_eq hr.units) (ex_bin o_mod (ex_var (pv 0)) ex_int) ex_int (nomark _)) (tw_or1 (ts_not (ts_val (ex_callN (n := 1) (ok_l_is_good (Cl := Cl) T) (hr.mono (by decide)) (by rfl) T.g_l_is_good T.F_l_is_good.kp T.b_l_is_good (ar_cons (ex_var (pv 2)) ar_nil) (arl_cons arl_nil))))))) (sms_one (sm_set (i := 2) nd rfl (.inl rfl) (ex_callN (n := 2) (ok_l_saw (Cl := Cl) T) (hr.mono (by decide)) (by rfl) T.g_l_saw T.F_l_saw.kp T.b_l_saw (ar_cons (ex_bin o_div (ex_var (pv 0)) ex_int) (ar_cons (ex_var (pv 1)) ar_nil)) (arl_cons (arl_cons arl_nil))))) sms_nil)
 (sms_cons (sm_set (i := 3) nd rfl (.inr rfl) (ex_bin o_div (ex_bin o_mul (ex_bin o_mod (ex_bin o_div (ex_var (pv 0)) ex_int) ex_int) (ex_var (pv 1))) ex_int))
 (sms_one (sm_ret (ex_callN (n := 1) (ok_l_in_order (Cl := Cl) T) (hr.mono (by decide)) (by rfl) T.g_l_in_order T.F_l_in_order.kp T.b_l_in_order (ar_cons (ex_lc (own := [("_law_x", 4), ("_law_y", 5)]) rfl nd (src_val (ex_var (pv 2))) (blkOk_by (N := N_l_plot) (sc := defScope s_l_plot) (by decide +kernel)) (fun _ _ _ _ _ => pg_tup rfl (pgs_cons (pg_name (i := 4) nd rfl (.inl rfl)) (pgs_cons (pg_name (i := 5) nd rfl (.inl rfl)) pgs_nil))) (fun _ _ _ _ _ => pts_nil) (fun _ _ _ _ _ => (ex_tup (ar_cons (ex_bin o_sub (ex_var (pv 4)) (ex_var (pv 3))) (ar_cons (ex_var (pv 5)) ar_nil)))) (tg_pair (by decide) (by decide)) tt_yes) ar_nil) (arl_cons arl_nil)))))))
theorem ok_l_law_k50 (T : Txt K mg Cl a) : FnOk P w K mg base CX0 6 a.f_l_law_k50 a.fd_l_law_k50 ["_law_script"] (spF K Cl 1 m_l_law_k50) :=
 fn_pure (Cl := Cl) T.F_l_law_k50 sc_l_law_k50 (by decide) fun cdv A outer s H E hr => by
  have nd := sc_l_law_k50.nd
  exact (sms_cons (sm_set (i := 1) nd rfl (.inl rfl) (ex_callN (n := 2) (ok_l_plot (Cl := Cl) T) (hr.mono (by decide)) (by rfl) T.g_l_plot T.F_l_plot.kp T.b_l_plot (ar_cons (ex_callN (n := 2) (ok_l_mixed (Cl := Cl) T) (hr.mono (by decide)) (by rfl) T.g_l_mixed T.F_l_mixed.kp T.b_l_mixed (ar_cons (ex_var (pv 0)) (ar_cons ex_int ar_nil)) (arl_cons (arl_cons arl_nil))) (ar_cons ex_int ar_nil)) (arl_cons (arl_cons arl_nil))))
 (sms_cons (sm_set (i := 2) nd rfl (.inl rfl) (ex_ix x_ix (ex_tup (ar_cons ex_int (ar_cons ex_int ar_nil))) (ex_bin o_mod (ex_bin o_div (ex_callN (n := 2) (ok_l_mixed (Cl := Cl) T) (hr.mono (by decide)) (by rfl) T.g_l_mixed T.F_l_mixed.kp T.b_l_mixed (ar_cons (ex_var (pv 0)) (ar_cons ex_int ar_nil)) (arl_cons (arl_cons arl_nil))) ex_int) ex_int) (fun _ _ => rfl)))
 (sms_cons (sm_set (i := 3) nd rfl (.inr rfl) (ex_tup (ar_cons (ex_bin o_sub (ex_bin o_mod (ex_callN (n := 2) (ok_l_mixed (Cl := Cl) T) (hr.mono (by decide)) (by rfl) T.g_l_mixed T.F_l_mixed.kp T.b_l_mixed (ar_cons (ex_var (pv 0)) (ar_cons ex_int ar_nil)) (arl_cons (arl_cons arl_nil))) (ex_bin o_add (ex_bin o_mul ex_int (ex_var (pv 2))) ex_int)) (ex_var (pv 2))) (ar_cons (ex_bin o_sub (ex_bin o_mod (ex_callN (n := 2) (ok_l_mixed (Cl := Cl) T) (hr.mono (by decide)) (by rfl) T.g_l_mixed T.F_l_mixed.kp T.b_l_mixed (ar_cons (ex_var (pv 0)) (ar_cons ex_int ar_nil)) (arl_cons (arl_cons arl_nil))) (ex_bin o_add (ex_bin o_mul ex_int (ex_var (pv 2))) ex_int)) (ex_var (pv 2))) ar_nil))))
 (sms_cons (sm_set (i := 4) nd rfl (.inr rfl) (ex_bin o_sub (ex_bin o_mod (ex_callN (n := 2) (ok_l_mixed (Cl := Cl) T) (hr.mono (by decide)) (by rfl) T.g_l_mixed T.F_l_mixed.kp T.b_l_mixed (ar_cons (ex_var (pv 0)) (ar_cons ex_int ar_nil)) (arl_cons (arl_cons arl_nil))) ex_int) ex_int))
 (sms_cons (sm_set (i := 5) nd rfl (.inl rfl) (ex_callN (n := 2) (ok_p_moved (Cl := Cl) T) (hr.mono (by decide)) (by rfl) T.g_p_moved T.F_p_moved.kp T.b_p_moved (ar_cons (ex_var (pv 1)) (ar_cons (ex_var (pv 3)) ar_nil)) (arl_cons (arl_cons arl_nil))))
 (sms_cons (sm_if (ts_cmp (o_ne hr.units) (ex_var (pv 5)) (ex_callN (n := 1) (ok_l_in_order (Cl := Cl) T) (hr.mono (by decide)) (by rfl) T.g_l_in_order T.F_l_in_order.kp T.b_l_in_order (ar_cons (ex_lc (own := [("_law_x", 10), ("_law_y", 11)]) rfl nd (src_val (ex_var (pv 1))) (blkOk_by (N := N_l_law_k50) (sc := defScope s_l_law_k50) (by decide +kernel)) (fun _ _ _ _ _ => pg_tup rfl (pgs_cons (pg_name (i := 10) nd rfl (.inl rfl)) (pgs_cons (pg_name (i := 11) nd rfl (.inl rfl)) pgs_nil))) (fun _ _ _ _ _ => pts_nil) (fun _ _ _ _ _ => (ex_tup (ar_cons (ex_bin o_add (ex_var (pv 10)) (ex_ix x_ix (ex_var (pv 3)) ex_int (fun _ _ => rfl))) (ar_cons (ex_bin o_add (ex_var (pv 11)) (ex_ix x_ix (ex_var (pv 3)) ex_int (fun _ _ => rfl))) ar_nil)))) (tg_pair (by decide) (by decide)) tt_yes) ar_nil) (arl_cons arl_nil)) (nomark _)) (sms_one (sm_ret ex_bl)) sms_nil)
 (sms_cons (sm_set (i := 6) nd rfl (.inl rfl) (ex_callN (n := 1) (ok_p_turned (Cl := Cl) T) (hr.mono (by decide)) (by rfl) T.g_p_turned T.F_p_turned.kp T.b_p_turned (ar_cons (ex_var (pv 1)) ar_nil) (arl_cons arl_nil)))
 (sms_cons (sm_set (i := 7) nd rfl (.inl rfl) (ex_callN (n := 1) (ok_p_mirrored (Cl := Cl) T) (hr.mono (by decide)) (by rfl) T.g_p_mirrored T.F_p_mirrored.kp T.b_p_mirrored (ar_cons (ex_var (pv 1)) ar_nil) (arl_cons arl_nil)))
 (sms_cons (sm_if (ts_w (tw_or (ts_cmp (o_ne hr.units) (ex_var (pv 6)) (ex_callN (n := 1) (ok_l_in_order (Cl := Cl) T) (hr.mono (by decide)) (by rfl) T.g_l_in_order T.F_l_in_order.kp T.b_l_in_order (ar_cons (ex_lc (own := [("_law_x", 10), ("_law_y", 11)]) rfl nd (src_val (ex_var (pv 1))) (blkOk_by (N := N_l_law_k50) (sc := defScope s_l_law_k50) (by decide +kernel)) (fun _ _ _ _ _ => pg_tup rfl (pgs_cons (pg_name (i := 10) nd rfl (.inl rfl)) (pgs_cons (pg_name (i := 11) nd rfl (.inl rfl)) pgs_nil))) (fun _ _ _ _ _ => pts_nil) (fun _ _ _ _ _ => (ex_tup (ar_cons (ex_un o_neg (ex_var (pv 11))) (ar_cons (ex_var (pv 10)) ar_nil)))) (tg_pair (by decide) (by decide)) tt_yes) ar_nil) (arl_cons arl_nil)) (nomark _)) (tw_or1 (ts_cmp (o_ne hr.units) (ex_var (pv 7)) (ex_callN (n := 1) (ok_l_in_order (Cl := Cl) T) (hr.mono (by decide)) (by rfl) T.g_l_in_order T.F_l_in_order.kp T.b_l_in_order (ar_cons (ex_lc (own := [("_law_x", 10), ("_law_y", 11)]) rfl nd (src_val (ex_var (pv 1))) (blkOk_by (N := N_l_law_k50) (sc := defScope s_l_law_k50) (by decide +kernel)) (fun _ _ _ _ _ => pg_tup rfl (pgs_cons (pg_name (i := 10) nd rfl (.inl rfl)) (pgs_cons (pg_name (i := 11) nd rfl (.inl rfl)) pgs_nil))) (fun _ _ _ _ _ => pts_nil) (fun _ _ _ _ _ => (ex_tup (ar_cons (ex_un o_neg (ex_var (pv 10))) (ar_cons (ex_var (pv 11)) ar_nil)))) (tg_pair (by decide) (by decide)) tt_yes) ar_nil) (arl_cons arl_nil)) (nomark _))))) (sms_one (sm_ret ex_bl)) sms_nil)
 (sms_cons (sm_set (i := 8) nd rfl (.inl rfl) (ex_callN (n := 2) (ok_p_sheared (Cl := Cl) T) (hr.mono (by decide)) (by rfl) T.g_p_sheared T.F_p_sheared.kp T.b_p_sheared (ar_cons (ex_var (pv 1)) (ar_cons (ex_var (pv 4)) ar_nil)) (arl_cons (arl_cons arl_nil))))
 (sms_cons (sm_if (ts_cmp (o_ne hr.units) (ex_var (pv 8)) (ex_callN (n := 1) (ok_l_in_order (Cl := Cl) T) (hr.mono (by decide)) (by rfl) T.g_l_in_order T.F_l_in_order.kp T.b_l_in_order (ar_cons (ex_lc (own := [("_law_x", 10), ("_law_y", 11)]) rfl nd (src_val (ex_var (pv 1))) (blkOk_by (N := N_l_law_k50) (sc := defScope s_l_law_k50) (by decide +kernel)) (fun _ _ _ _ _ => pg_tup rfl (pgs_cons (pg_name (i := 10) nd rfl (.inl rfl)) (pgs_cons (pg_name (i := 11) nd rfl (.inl rfl)) pgs_nil))) (fun _ _ _ _ _ => pts_nil) (fun _ _ _ _ _ => (ex_tup (ar_cons (ex_bin o_add (ex_var (pv 10)) (ex_bin o_mul (ex_var (pv 4)) (ex_var (pv 11)))) (ar_cons (ex_var (pv 11)) ar_nil)))) (tg_pair (by decide) (by decide)) tt_yes) ar_nil) (arl_cons arl_nil)) (nomark _)) (sms_one (sm_ret ex_bl)) sms_nil)
 (sms_cons (sm_for PassesOwn.never rfl (src_val (ex_tup (ar_cons (ex_var (pv 5)) (ar_cons (ex_var (pv 6)) (ar_cons (ex_var (pv 7)) (ar_cons (ex_var (pv 8)) ar_nil)))))) (pg_name (i := 9) nd rfl (.inl rfl)) tgs_name (sms_cons (sm_if (ts_w (tw_or (ts_cmp (o_ne hr.units) (ex_callN (n := 1) (ok_p_twice_area (Cl := Cl) T) (hr.mono (by decide)) (by rfl) T.g_p_twice_area T.F_p_twice_area.kp T.b_p_twice_area (ar_cons (ex_var (pv 9)) ar_nil) (arl_cons arl_nil)) (ex_callN (n := 1) (ok_p_twice_area (Cl := Cl) T) (hr.mono (by decide)) (by rfl) T.g_p_twice_area T.F_p_twice_area.kp T.b_p_twice_area (ar_cons (ex_var (pv 1)) ar_nil) (arl_cons arl_nil)) (nomark _)) (tw_or1 (ts_cmp (o_ne hr.units) (ex_callN (n := 1) (ok_p_fence_stakes (Cl := Cl) T) (hr.mono (by decide)) (by rfl) T.g_p_fence_stakes T.F_p_fence_stakes.kp T.b_p_fence_stakes (ar_cons (ex_var (pv 9)) ar_nil) (arl_cons arl_nil)) (ex_callN (n := 1) (ok_p_fence_stakes (Cl := Cl) T) (hr.mono (by decide)) (by rfl) T.g_p_fence_stakes T.F_p_fence_stakes.kp T.b_p_fence_stakes (ar_cons (ex_var (pv 1)) ar_nil) (arl_cons arl_nil)) (nomark _))))) (sms_one (sm_ret ex_bl)) sms_nil)
 (sms_one (sm_if (ts_cmp (o_ne hr.units) (ex_callN (n := 1) (ok_p_inner_stakes (Cl := Cl) T) (hr.mono (by decide)) (by rfl) T.g_p_inner_stakes T.F_p_inner_stakes.kp T.b_p_inner_stakes (ar_cons (ex_var (pv 9)) ar_nil) (arl_cons arl_nil)) (ex_callN (n := 1) (ok_p_inner_stakes (Cl := Cl) T) (hr.mono (by decide)) (by rfl) T.g_p_inner_stakes T.F_p_inner_stakes.kp T.b_p_inner_stakes (ar_cons (ex_var (pv 1)) ar_nil) (arl_cons arl_nil)) (nomark _)) (sms_one (sm_ret ex_bl)) sms_nil))))
 (sms_cons (sm_if (ts_w (tw_or (ts_cmp (o_ne hr.units) (ex_callN (n := 2) (ok_p_moved (Cl := Cl) T) (hr.mono (by decide)) (by rfl) T.g_p_moved T.F_p_moved.kp T.b_p_moved (ar_cons (ex_var (pv 5)) (ar_cons (ex_tup (ar_cons (ex_un o_neg (ex_ix x_ix (ex_var (pv 3)) ex_int (fun _ _ => rfl))) (ar_cons (ex_un o_neg (ex_ix x_ix (ex_var (pv 3)) ex_int (fun _ _ => rfl))) ar_nil))) ar_nil)) (arl_cons (arl_cons arl_nil))) (ex_var (pv 1)) (nomark _)) (tw_or (ts_cmp (o_ne hr.units) (ex_callN (n := 1) (ok_p_mirrored (Cl := Cl) T) (hr.mono (by decide)) (by rfl) T.g_p_mirrored T.F_p_mirrored.kp T.b_p_mirrored (ar_cons (ex_var (pv 7)) ar_nil) (arl_cons arl_nil)) (ex_var (pv 1)) (nomark _)) (tw_or1 (ts_cmp (o_ne hr.units) (ex_callN (n := 2) (ok_p_sheared (Cl := Cl) T) (hr.mono (by decide)) (by rfl) T.g_p_sheared T.F_p_sheared.kp T.b_p_sheared (ar_cons (ex_var (pv 8)) (ar_cons (ex_un o_neg (ex_var (pv 4))) ar_nil)) (arl_cons (arl_cons arl_nil))) (ex_var (pv 1)) (nomark _)))))) (sms_one (sm_ret ex_bl)) sms_nil)
 (sms_one (sm_ret (ex_cmp (o_eq hr.units) (ex_callN (n := 1) (ok_p_turned (Cl := Cl) T) (hr.mono (by decide)) (by rfl) T.g_p_turned T.F_p_turned.kp T.b_p_turned (ar_cons (ex_callN (n := 1) (ok_p_turned (Cl := Cl) T) (hr.mono (by decide)) (by rfl) T.g_p_turned T.F_p_turned.kp T.b_p_turned (ar_cons (ex_callN (n := 1) (ok_p_turned (Cl := Cl) T) (hr.mono (by decide)) (by rfl) T.g_p_turned T.F_p_turned.kp T.b_p_turned (ar_cons (ex_var (pv 6)) ar_nil) (arl_cons arl_nil)) ar_nil) (arl_cons arl_nil)) ar_nil) (arl_cons arl_nil)) (ex_var (pv 1)) (nomark _)))))))))))))))))
end
theorem all_mk {l : PySem.W.OpenLaw} {w : World} {K : PySem.W.Frag} {h : Heap} {mg : Str → Option Value} {fa : Addr} (X : K.In h) (G : h.Ns mainGlobals mg) (hfa : mg "law" = some (.ref fa))
    {f0 : Addr} {od0 an0 : Option Addr} {sl0 : Array (Option Value)} {oc0 kV0 dc0 pm0 cd0 ct0 : Value}
    (a0 : PySem.W.nsIn K mainGlobals "turn" = some (some (.ref f0))) (l0 : K.lookup f0 = some ⟨oc0, od0, .func (PySem.W.fnOf "turn" "turn" (defArgs s_p_turn) (defBody s_p_turn) (defScope s_p_turn) .none kV0 dc0 pm0 an0 cd0 ct0), sl0⟩) (c0 : PySem.W.codeIn K cd0 "turn" = true) (k0 : PySem.W.keepIn K (.ref f0) = true)
    {f1 : Addr} {od1 an1 : Option Addr} {sl1 : Array (Option Value)} {oc1 kV1 dc1 pm1 cd1 ct1 : Value}
    (a1 : PySem.W.nsIn K mainGlobals "lies_on" = some (some (.ref f1))) (l1 : K.lookup f1 = some ⟨oc1, od1, .func (PySem.W.fnOf "lies_on" "lies_on" (defArgs s_p_lies_on) (defBody s_p_lies_on) (defScope s_p_lies_on) .none kV1 dc1 pm1 an1 cd1 ct1), sl1⟩) (c1 : PySem.W.codeIn K cd1 "lies_on" = true) (k1 : PySem.W.keepIn K (.ref f1) = true)
    {f2 : Addr} {od2 an2 : Option Addr} {sl2 : Array (Option Value)} {oc2 kV2 dc2 pm2 cd2 ct2 : Value}
    (a2 : PySem.W.nsIn K mainGlobals "sides_of" = some (some (.ref f2))) (l2 : K.lookup f2 = some ⟨oc2, od2, .func (PySem.W.fnOf "sides_of" "sides_of" (defArgs s_p_sides_of) (defBody s_p_sides_of) (defScope s_p_sides_of) .none kV2 dc2 pm2 an2 cd2 ct2), sl2⟩) (c2 : PySem.W.codeIn K cd2 "sides_of" = true) (k2 : PySem.W.keepIn K (.ref f2) = true)
    {f3 : Addr} {od3 an3 : Option Addr} {sl3 : Array (Option Value)} {oc3 kV3 dc3 pm3 cd3 ct3 : Value}
    (a3 : PySem.W.nsIn K mainGlobals "twice_area_of" = some (some (.ref f3))) (l3 : K.lookup f3 = some ⟨oc3, od3, .func (PySem.W.fnOf "twice_area_of" "twice_area_of" (defArgs s_p_twice_area_of) (defBody s_p_twice_area_of) (defScope s_p_twice_area_of) .none kV3 dc3 pm3 an3 cd3 ct3), sl3⟩) (c3 : PySem.W.codeIn K cd3 "twice_area_of" = true) (k3 : PySem.W.keepIn K (.ref f3) = true)
    {f4 : Addr} {od4 an4 : Option Addr} {sl4 : Array (Option Value)} {oc4 kV4 dc4 pm4 cd4 ct4 : Value}
    (a4 : PySem.W.nsIn K mainGlobals "in_order" = some (some (.ref f4))) (l4 : K.lookup f4 = some ⟨oc4, od4, .func (PySem.W.fnOf "in_order" "in_order" (defArgs s_p_in_order) (defBody s_p_in_order) (defScope s_p_in_order) .none kV4 dc4 pm4 an4 cd4 ct4), sl4⟩) (c4 : PySem.W.codeIn K cd4 "in_order" = true) (k4 : PySem.W.keepIn K (.ref f4) = true)
    {f5 : Addr} {od5 an5 : Option Addr} {sl5 : Array (Option Value)} {oc5 kV5 dc5 pm5 cd5 ct5 : Value}
    (a5 : PySem.W.nsIn K mainGlobals "moved" = some (some (.ref f5))) (l5 : K.lookup f5 = some ⟨oc5, od5, .func (PySem.W.fnOf "moved" "moved" (defArgs s_p_moved) (defBody s_p_moved) (defScope s_p_moved) .none kV5 dc5 pm5 an5 cd5 ct5), sl5⟩) (c5 : PySem.W.codeIn K cd5 "moved" = true) (k5 : PySem.W.keepIn K (.ref f5) = true)
    {f6 : Addr} {od6 an6 : Option Addr} {sl6 : Array (Option Value)} {oc6 kV6 dc6 pm6 cd6 ct6 : Value}
    (a6 : PySem.W.nsIn K mainGlobals "turned" = some (some (.ref f6))) (l6 : K.lookup f6 = some ⟨oc6, od6, .func (PySem.W.fnOf "turned" "turned" (defArgs s_p_turned) (defBody s_p_turned) (defScope s_p_turned) .none kV6 dc6 pm6 an6 cd6 ct6), sl6⟩) (c6 : PySem.W.codeIn K cd6 "turned" = true) (k6 : PySem.W.keepIn K (.ref f6) = true)
    {f7 : Addr} {od7 an7 : Option Addr} {sl7 : Array (Option Value)} {oc7 kV7 dc7 pm7 cd7 ct7 : Value}
    (a7 : PySem.W.nsIn K mainGlobals "mirrored" = some (some (.ref f7))) (l7 : K.lookup f7 = some ⟨oc7, od7, .func (PySem.W.fnOf "mirrored" "mirrored" (defArgs s_p_mirrored) (defBody s_p_mirrored) (defScope s_p_mirrored) .none kV7 dc7 pm7 an7 cd7 ct7), sl7⟩) (c7 : PySem.W.codeIn K cd7 "mirrored" = true) (k7 : PySem.W.keepIn K (.ref f7) = true)
    {f8 : Addr} {od8 an8 : Option Addr} {sl8 : Array (Option Value)} {oc8 kV8 dc8 pm8 cd8 ct8 : Value}
    (a8 : PySem.W.nsIn K mainGlobals "sheared" = some (some (.ref f8))) (l8 : K.lookup f8 = some ⟨oc8, od8, .func (PySem.W.fnOf "sheared" "sheared" (defArgs s_p_sheared) (defBody s_p_sheared) (defScope s_p_sheared) .none kV8 dc8 pm8 an8 cd8 ct8), sl8⟩) (c8 : PySem.W.codeIn K cd8 "sheared" = true) (k8 : PySem.W.keepIn K (.ref f8) = true)
    {f9 : Addr} {od9 an9 : Option Addr} {sl9 : Array (Option Value)} {oc9 kV9 dc9 pm9 cd9 ct9 : Value}
    (a9 : PySem.W.nsIn K mainGlobals "divisor" = some (some (.ref f9))) (l9 : K.lookup f9 = some ⟨oc9, od9, .func (PySem.W.fnOf "divisor" "divisor" (defArgs s_p_divisor) (defBody s_p_divisor) (defScope s_p_divisor) .none kV9 dc9 pm9 an9 cd9 ct9), sl9⟩) (c9 : PySem.W.codeIn K cd9 "divisor" = true) (k9 : PySem.W.keepIn K (.ref f9) = true)
    {f10 : Addr} {od10 an10 : Option Addr} {sl10 : Array (Option Value)} {oc10 kV10 dc10 pm10 cd10 ct10 : Value}
    (a10 : PySem.W.nsIn K mainGlobals "twice_area" = some (some (.ref f10))) (l10 : K.lookup f10 = some ⟨oc10, od10, .func (PySem.W.fnOf "twice_area" "twice_area" (defArgs s_p_twice_area) (defBody s_p_twice_area) (defScope s_p_twice_area) .none kV10 dc10 pm10 an10 cd10 ct10), sl10⟩) (c10 : PySem.W.codeIn K cd10 "twice_area" = true) (k10 : PySem.W.keepIn K (.ref f10) = true)
    {f11 : Addr} {od11 an11 : Option Addr} {sl11 : Array (Option Value)} {oc11 kV11 dc11 pm11 cd11 ct11 : Value}
    (a11 : PySem.W.nsIn K mainGlobals "fence_stakes" = some (some (.ref f11))) (l11 : K.lookup f11 = some ⟨oc11, od11, .func (PySem.W.fnOf "fence_stakes" "fence_stakes" (defArgs s_p_fence_stakes) (defBody s_p_fence_stakes) (defScope s_p_fence_stakes) .none kV11 dc11 pm11 an11 cd11 ct11), sl11⟩) (c11 : PySem.W.codeIn K cd11 "fence_stakes" = true) (k11 : PySem.W.keepIn K (.ref f11) = true)
    {f12 : Addr} {od12 an12 : Option Addr} {sl12 : Array (Option Value)} {oc12 kV12 dc12 pm12 cd12 ct12 : Value}
    (a12 : PySem.W.nsIn K mainGlobals "height" = some (some (.ref f12))) (l12 : K.lookup f12 = some ⟨oc12, od12, .func (PySem.W.fnOf "height" "height" (defArgs s_p_height) (defBody s_p_height) (defScope s_p_height) .none kV12 dc12 pm12 an12 cd12 ct12), sl12⟩) (c12 : PySem.W.codeIn K cd12 "height" = true) (k12 : PySem.W.keepIn K (.ref f12) = true)
    {f13 : Addr} {od13 an13 : Option Addr} {sl13 : Array (Option Value)} {oc13 kV13 dc13 pm13 cd13 ct13 : Value}
    (a13 : PySem.W.nsIn K mainGlobals "where" = some (some (.ref f13))) (l13 : K.lookup f13 = some ⟨oc13, od13, .func (PySem.W.fnOf "where" "where" (defArgs s_p_where) (defBody s_p_where) (defScope s_p_where) .none kV13 dc13 pm13 an13 cd13 ct13), sl13⟩) (c13 : PySem.W.codeIn K cd13 "where" = true) (k13 : PySem.W.keepIn K (.ref f13) = true)
    {f14 : Addr} {od14 an14 : Option Addr} {sl14 : Array (Option Value)} {oc14 kV14 dc14 pm14 cd14 ct14 : Value}
    (a14 : PySem.W.nsIn K mainGlobals "inner_stakes" = some (some (.ref f14))) (l14 : K.lookup f14 = some ⟨oc14, od14, .func (PySem.W.fnOf "inner_stakes" "inner_stakes" (defArgs s_p_inner_stakes) (defBody s_p_inner_stakes) (defScope s_p_inner_stakes) .none kV14 dc14 pm14 an14 cd14 ct14), sl14⟩) (c14 : PySem.W.codeIn K cd14 "inner_stakes" = true) (k14 : PySem.W.keepIn K (.ref f14) = true)
    {f15 : Addr} {od15 an15 : Option Addr} {sl15 : Array (Option Value)} {oc15 kV15 dc15 pm15 cd15 ct15 : Value}
    (a15 : PySem.W.nsIn K mainGlobals "_law_cell_at" = some (some (.ref f15))) (l15 : K.lookup f15 = some ⟨oc15, od15, .func (PySem.W.fnOf "_law_cell_at" "_law_cell_at" (defArgs s_l_cell_at) (defBody s_l_cell_at) (defScope s_l_cell_at) .none kV15 dc15 pm15 an15 cd15 ct15), sl15⟩) (c15 : PySem.W.codeIn K cd15 "_law_cell_at" = true) (k15 : PySem.W.keepIn K (.ref f15) = true)
    {f16 : Addr} {od16 an16 : Option Addr} {sl16 : Array (Option Value)} {oc16 kV16 dc16 pm16 cd16 ct16 : Value}
    (a16 : PySem.W.nsIn K mainGlobals "_law_mixed" = some (some (.ref f16))) (l16 : K.lookup f16 = some ⟨oc16, od16, .func (PySem.W.fnOf "_law_mixed" "_law_mixed" (defArgs s_l_mixed) (defBody s_l_mixed) (defScope s_l_mixed) .none kV16 dc16 pm16 an16 cd16 ct16), sl16⟩) (c16 : PySem.W.codeIn K cd16 "_law_mixed" = true) (k16 : PySem.W.keepIn K (.ref f16) = true)
    {f17 : Addr} {od17 an17 : Option Addr} {sl17 : Array (Option Value)} {oc17 kV17 dc17 pm17 cd17 ct17 : Value}
    (a17 : PySem.W.nsIn K mainGlobals "_law_drawn" = some (some (.ref f17))) (l17 : K.lookup f17 = some ⟨oc17, od17, .func (PySem.W.fnOf "_law_drawn" "_law_drawn" (defArgs s_l_drawn) (defBody s_l_drawn) (defScope s_l_drawn) .none kV17 dc17 pm17 an17 cd17 ct17), sl17⟩) (c17 : PySem.W.codeIn K cd17 "_law_drawn" = true) (k17 : PySem.W.keepIn K (.ref f17) = true)
    {f18 : Addr} {od18 an18 : Option Addr} {sl18 : Array (Option Value)} {oc18 kV18 dc18 pm18 cd18 ct18 : Value}
    (a18 : PySem.W.nsIn K mainGlobals "_law_turn" = some (some (.ref f18))) (l18 : K.lookup f18 = some ⟨oc18, od18, .func (PySem.W.fnOf "_law_turn" "_law_turn" (defArgs s_l_turn) (defBody s_l_turn) (defScope s_l_turn) .none kV18 dc18 pm18 an18 cd18 ct18), sl18⟩) (c18 : PySem.W.codeIn K cd18 "_law_turn" = true) (k18 : PySem.W.keepIn K (.ref f18) = true)
    {f19 : Addr} {od19 an19 : Option Addr} {sl19 : Array (Option Value)} {oc19 kV19 dc19 pm19 cd19 ct19 : Value}
    (a19 : PySem.W.nsIn K mainGlobals "_law_on" = some (some (.ref f19))) (l19 : K.lookup f19 = some ⟨oc19, od19, .func (PySem.W.fnOf "_law_on" "_law_on" (defArgs s_l_on) (defBody s_l_on) (defScope s_l_on) .none kV19 dc19 pm19 an19 cd19 ct19), sl19⟩) (c19 : PySem.W.codeIn K cd19 "_law_on" = true) (k19 : PySem.W.keepIn K (.ref f19) = true)
    {f20 : Addr} {od20 an20 : Option Addr} {sl20 : Array (Option Value)} {oc20 kV20 dc20 pm20 cd20 ct20 : Value}
    (a20 : PySem.W.nsIn K mainGlobals "_law_next" = some (some (.ref f20))) (l20 : K.lookup f20 = some ⟨oc20, od20, .func (PySem.W.fnOf "_law_next" "_law_next" (defArgs s_l_next) (defBody s_l_next) (defScope s_l_next) .none kV20 dc20 pm20 an20 cd20 ct20), sl20⟩) (c20 : PySem.W.codeIn K cd20 "_law_next" = true) (k20 : PySem.W.keepIn K (.ref f20) = true)
    {f21 : Addr} {od21 an21 : Option Addr} {sl21 : Array (Option Value)} {oc21 kV21 dc21 pm21 cd21 ct21 : Value}
    (a21 : PySem.W.nsIn K mainGlobals "_law_area" = some (some (.ref f21))) (l21 : K.lookup f21 = some ⟨oc21, od21, .func (PySem.W.fnOf "_law_area" "_law_area" (defArgs s_l_area) (defBody s_l_area) (defScope s_l_area) .none kV21 dc21 pm21 an21 cd21 ct21), sl21⟩) (c21 : PySem.W.codeIn K cd21 "_law_area" = true) (k21 : PySem.W.keepIn K (.ref f21) = true)
    {f22 : Addr} {od22 an22 : Option Addr} {sl22 : Array (Option Value)} {oc22 kV22 dc22 pm22 cd22 ct22 : Value}
    (a22 : PySem.W.nsIn K mainGlobals "_law_in_order" = some (some (.ref f22))) (l22 : K.lookup f22 = some ⟨oc22, od22, .func (PySem.W.fnOf "_law_in_order" "_law_in_order" (defArgs s_l_in_order) (defBody s_l_in_order) (defScope s_l_in_order) .none kV22 dc22 pm22 an22 cd22 ct22), sl22⟩) (c22 : PySem.W.codeIn K cd22 "_law_in_order" = true) (k22 : PySem.W.keepIn K (.ref f22) = true)
    {f23 : Addr} {od23 an23 : Option Addr} {sl23 : Array (Option Value)} {oc23 kV23 dc23 pm23 cd23 ct23 : Value}
    (a23 : PySem.W.nsIn K mainGlobals "_law_meet" = some (some (.ref f23))) (l23 : K.lookup f23 = some ⟨oc23, od23, .func (PySem.W.fnOf "_law_meet" "_law_meet" (defArgs s_l_meet) (defBody s_l_meet) (defScope s_l_meet) .none kV23 dc23 pm23 an23 cd23 ct23), sl23⟩) (c23 : PySem.W.codeIn K cd23 "_law_meet" = true) (k23 : PySem.W.keepIn K (.ref f23) = true)
    {f24 : Addr} {od24 an24 : Option Addr} {sl24 : Array (Option Value)} {oc24 kV24 dc24 pm24 cd24 ct24 : Value}
    (a24 : PySem.W.nsIn K mainGlobals "_law_turns" = some (some (.ref f24))) (l24 : K.lookup f24 = some ⟨oc24, od24, .func (PySem.W.fnOf "_law_turns" "_law_turns" (defArgs s_l_turns) (defBody s_l_turns) (defScope s_l_turns) .none kV24 dc24 pm24 an24 cd24 ct24), sl24⟩) (c24 : PySem.W.codeIn K cd24 "_law_turns" = true) (k24 : PySem.W.keepIn K (.ref f24) = true)
    {f25 : Addr} {od25 an25 : Option Addr} {sl25 : Array (Option Value)} {oc25 kV25 dc25 pm25 cd25 ct25 : Value}
    (a25 : PySem.W.nsIn K mainGlobals "_law_is_good" = some (some (.ref f25))) (l25 : K.lookup f25 = some ⟨oc25, od25, .func (PySem.W.fnOf "_law_is_good" "_law_is_good" (defArgs s_l_is_good) (defBody s_l_is_good) (defScope s_l_is_good) .none kV25 dc25 pm25 an25 cd25 ct25), sl25⟩) (c25 : PySem.W.codeIn K cd25 "_law_is_good" = true) (k25 : PySem.W.keepIn K (.ref f25) = true)
    {f26 : Addr} {od26 an26 : Option Addr} {sl26 : Array (Option Value)} {oc26 kV26 dc26 pm26 cd26 ct26 : Value}
    (a26 : PySem.W.nsIn K mainGlobals "_law_spots" = some (some (.ref f26))) (l26 : K.lookup f26 = some ⟨oc26, od26, .func (PySem.W.fnOf "_law_spots" "_law_spots" (defArgs s_l_spots) (defBody s_l_spots) (defScope s_l_spots) .none kV26 dc26 pm26 an26 cd26 ct26), sl26⟩) (c26 : PySem.W.codeIn K cd26 "_law_spots" = true) (k26 : PySem.W.keepIn K (.ref f26) = true)
    {f27 : Addr} {od27 an27 : Option Addr} {sl27 : Array (Option Value)} {oc27 kV27 dc27 pm27 cd27 ct27 : Value}
    (a27 : PySem.W.nsIn K mainGlobals "_law_saw" = some (some (.ref f27))) (l27 : K.lookup f27 = some ⟨oc27, od27, .func (PySem.W.fnOf "_law_saw" "_law_saw" (defArgs s_l_saw) (defBody s_l_saw) (defScope s_l_saw) .none kV27 dc27 pm27 an27 cd27 ct27), sl27⟩) (c27 : PySem.W.codeIn K cd27 "_law_saw" = true) (k27 : PySem.W.keepIn K (.ref f27) = true)
    {f28 : Addr} {od28 an28 : Option Addr} {sl28 : Array (Option Value)} {oc28 kV28 dc28 pm28 cd28 ct28 : Value}
    (a28 : PySem.W.nsIn K mainGlobals "_law_plot" = some (some (.ref f28))) (l28 : K.lookup f28 = some ⟨oc28, od28, .func (PySem.W.fnOf "_law_plot" "_law_plot" (defArgs s_l_plot) (defBody s_l_plot) (defScope s_l_plot) .none kV28 dc28 pm28 an28 cd28 ct28), sl28⟩) (c28 : PySem.W.codeIn K cd28 "_law_plot" = true) (k28 : PySem.W.keepIn K (.ref f28) = true)
    {f29 : Addr} {od29 an29 : Option Addr} {sl29 : Array (Option Value)} {oc29 kV29 dc29 pm29 cd29 ct29 : Value}
    (a29 : PySem.W.nsIn K mainGlobals "law" = some (some (.ref f29))) (l29 : K.lookup f29 = some ⟨oc29, od29, .func (PySem.W.fnOf "law" "law" (defArgs s_l_law_k50) (defBody s_l_law_k50) (defScope s_l_law_k50) .none kV29 dc29 pm29 an29 cd29 ct29), sl29⟩) (c29 : PySem.W.codeIn K cd29 "law" = true) (k29 : PySem.W.keepIn K (.ref f29) = true)
    (z0 : PySem.W.nsIn K mainGlobals "abs" = some none)
    (z1 : PySem.W.nsIn K mainGlobals "enumerate" = some none)
    (z2 : PySem.W.nsIn K mainGlobals "len" = some none)
    (z3 : PySem.W.nsIn K mainGlobals "list" = some none)
    (z4 : PySem.W.nsIn K mainGlobals "max" = some none)
    (z5 : PySem.W.nsIn K mainGlobals "min" = some none)
    (z6 : PySem.W.nsIn K mainGlobals "range" = some none)
    (z7 : PySem.W.nsIn K mainGlobals "set" = some none)
    (z8 : PySem.W.nsIn K mainGlobals "sum" = some none)
    (z9 : PySem.W.nsIn K mainGlobals "tuple" = some none)
    : ∃ fd : FuncData, (∀ (s : Shared) (v : Value), BindsTo s fd ⟨[v], []⟩ [("_law_script", v)]) ∧ ∀ base : Heap, K.In base → base.Ns mainGlobals mg → FnOk l.prog w K mg base CX0 6 fa fd ["_law_script"] (spF K (fun _ => 0) 1 (pureS m_l_law_k50)) := by
  have e := hfa.symm.trans (PySem.W.mg_of X G a29)
  cases e
  let ad : Adr := { f_p_turn := f0, fd_p_turn := PySem.W.fnOf "turn" "turn" (defArgs s_p_turn) (defBody s_p_turn) (defScope s_p_turn) .none kV0 dc0 pm0 an0 cd0 ct0, f_p_lies_on := f1, fd_p_lies_on := PySem.W.fnOf "lies_on" "lies_on" (defArgs s_p_lies_on) (defBody s_p_lies_on) (defScope s_p_lies_on) .none kV1 dc1 pm1 an1 cd1 ct1, f_p_sides_of := f2, fd_p_sides_of := PySem.W.fnOf "sides_of" "sides_of" (defArgs s_p_sides_of) (defBody s_p_sides_of) (defScope s_p_sides_of) .none kV2 dc2 pm2 an2 cd2 ct2, f_p_twice_area_of := f3, fd_p_twice_area_of := PySem.W.fnOf "twice_area_of" "twice_area_of" (defArgs s_p_twice_area_of) (defBody s_p_twice_area_of) (defScope s_p_twice_area_of) .none kV3 dc3 pm3 an3 cd3 ct3, f_p_in_order := f4, fd_p_in_order := PySem.W.fnOf "in_order" "in_order" (defArgs s_p_in_order) (defBody s_p_in_order) (defScope s_p_in_order) .none kV4 dc4 pm4 an4 cd4 ct4, f_p_moved := f5, fd_p_moved := PySem.W.fnOf "moved" "moved" (defArgs s_p_moved) (defBody s_p_moved) (defScope s_p_moved) .none kV5 dc5 pm5 an5 cd5 ct5, f_p_turned := f6, fd_p_turned := PySem.W.fnOf "turned" "turned" (defArgs s_p_turned) (defBody s_p_turned) (defScope s_p_turned) .none kV6 dc6 pm6 an6 cd6 ct6, f_p_mirrored := f7, fd_p_mirrored := PySem.W.fnOf "mirrored" "mirrored" (defArgs s_p_mirrored) (defBody s_p_mirrored) (defScope s_p_mirrored) .none kV7 dc7 pm7 an7 cd7 ct7, f_p_sheared := f8, fd_p_sheared := PySem.W.fnOf "sheared" "sheared" (defArgs s_p_sheared) (defBody s_p_sheared) (defScope s_p_sheared) .none kV8 dc8 pm8 an8 cd8 ct8, f_p_divisor := f9, fd_p_divisor := PySem.W.fnOf "divisor" "divisor" (defArgs s_p_divisor) (defBody s_p_divisor) (defScope s_p_divisor) .none kV9 dc9 pm9 an9 cd9 ct9, f_p_twice_area := f10, fd_p_twice_area := PySem.W.fnOf "twice_area" "twice_area" (defArgs s_p_twice_area) (defBody s_p_twice_area) (defScope s_p_twice_area) .none kV10 dc10 pm10 an10 cd10 ct10, f_p_fence_stakes := f11, fd_p_fence_stakes := PySem.W.fnOf "fence_stakes" "fence_stakes" (defArgs s_p_fence_stakes) (defBody s_p_fence_stakes) (defScope s_p_fence_stakes) .none kV11 dc11 pm11 an11 cd11 ct11, f_p_height := f12, fd_p_height := PySem.W.fnOf "height" "height" (defArgs s_p_height) (defBody s_p_height) (defScope s_p_height) .none kV12 dc12 pm12 an12 cd12 ct12, f_p_where := f13, fd_p_where := PySem.W.fnOf "where" "where" (defArgs s_p_where) (defBody s_p_where) (defScope s_p_where) .none kV13 dc13 pm13 an13 cd13 ct13, f_p_inner_stakes := f14, fd_p_inner_stakes := PySem.W.fnOf "inner_stakes" "inner_stakes" (defArgs s_p_inner_stakes) (defBody s_p_inner_stakes) (defScope s_p_inner_stakes) .none kV14 dc14 pm14 an14 cd14 ct14, f_l_cell_at := f15, fd_l_cell_at := PySem.W.fnOf "_law_cell_at" "_law_cell_at" (defArgs s_l_cell_at) (defBody s_l_cell_at) (defScope s_l_cell_at) .none kV15 dc15 pm15 an15 cd15 ct15, f_l_mixed := f16, fd_l_mixed := PySem.W.fnOf "_law_mixed" "_law_mixed" (defArgs s_l_mixed) (defBody s_l_mixed) (defScope s_l_mixed) .none kV16 dc16 pm16 an16 cd16 ct16, f_l_drawn := f17, fd_l_drawn := PySem.W.fnOf "_law_drawn" "_law_drawn" (defArgs s_l_drawn) (defBody s_l_drawn) (defScope s_l_drawn) .none kV17 dc17 pm17 an17 cd17 ct17, f_l_turn := f18, fd_l_turn := PySem.W.fnOf "_law_turn" "_law_turn" (defArgs s_l_turn) (defBody s_l_turn) (defScope s_l_turn) .none kV18 dc18 pm18 an18 cd18 ct18, f_l_on := f19, fd_l_on := PySem.W.fnOf "_law_on" "_law_on" (defArgs s_l_on) (defBody s_l_on) (defScope s_l_on) .none kV19 dc19 pm19 an19 cd19 ct19, f_l_next := f20, fd_l_next := PySem.W.fnOf "_law_next" "_law_next" (defArgs s_l_next) (defBody s_l_next) (defScope s_l_next) .none kV20 dc20 pm20 an20 cd20 ct20, f_l_area := f21, fd_l_area := PySem.W.fnOf "_law_area" "_law_area" (defArgs s_l_area) (defBody s_l_area) (defScope s_l_area) .none kV21 dc21 pm21 an21 cd21 ct21, f_l_in_order := f22, fd_l_in_order := PySem.W.fnOf "_law_in_order" "_law_in_order" (defArgs s_l_in_order) (defBody s_l_in_order) (defScope s_l_in_order) .none kV22 dc22 pm22 an22 cd22 ct22, f_l_meet := f23, fd_l_meet := PySem.W.fnOf "_law_meet" "_law_meet" (defArgs s_l_meet) (defBody s_l_meet) (defScope s_l_meet) .none kV23 dc23 pm23 an23 cd23 ct23, f_l_turns := f24, fd_l_turns := PySem.W.fnOf "_law_turns" "_law_turns" (defArgs s_l_turns) (defBody s_l_turns) (defScope s_l_turns) .none kV24 dc24 pm24 an24 cd24 ct24, f_l_is_good := f25, fd_l_is_good := PySem.W.fnOf "_law_is_good" "_law_is_good" (defArgs s_l_is_good) (defBody s_l_is_good) (defScope s_l_is_good) .none kV25 dc25 pm25 an25 cd25 ct25, f_l_spots := f26, fd_l_spots := PySem.W.fnOf "_law_spots" "_law_spots" (defArgs s_l_spots) (defBody s_l_spots) (defScope s_l_spots) .none kV26 dc26 pm26 an26 cd26 ct26, f_l_saw := f27, fd_l_saw := PySem.W.fnOf "_law_saw" "_law_saw" (defArgs s_l_saw) (defBody s_l_saw) (defScope s_l_saw) .none kV27 dc27 pm27 an27 cd27 ct27, f_l_plot := f28, fd_l_plot := PySem.W.fnOf "_law_plot" "_law_plot" (defArgs s_l_plot) (defBody s_l_plot) (defScope s_l_plot) .none kV28 dc28 pm28 an28 cd28 ct28, f_l_law_k50 := fa, fd_l_law_k50 := PySem.W.fnOf "law" "law" (defArgs s_l_law_k50) (defBody s_l_law_k50) (defScope s_l_law_k50) .none kV29 dc29 pm29 an29 cd29 ct29 }
  have T : Txt K mg (clsF 0 0 0) ad := {
    m_abs := PySem.W.mg_none_of X G z0
    m_enumerate := PySem.W.mg_none_of X G z1
    m_len := PySem.W.mg_none_of X G z2
    m_list := PySem.W.mg_none_of X G z3
    m_max := PySem.W.mg_none_of X G z4
    m_min := PySem.W.mg_none_of X G z5
    m_range := PySem.W.mg_none_of X G z6
    m_set := PySem.W.mg_none_of X G z7
    m_sum := PySem.W.mg_none_of X G z8
    m_tuple := PySem.W.mg_none_of X G z9
    F_p_turn := fun_mk (st := s_p_turn) l0 c0 k0
    g_p_turn := PySem.W.mg_of X G a0
    b_p_turn := (fun_mk (st := s_p_turn) l0 c0 k0).binds (ps := ["a", "b", "c"]) fun _ _ _ _ _ _ us hl => match us, hl with | [_, _, _], _ => rfl
    F_p_lies_on := fun_mk (st := s_p_lies_on) l1 c1 k1
    g_p_lies_on := PySem.W.mg_of X G a1
    b_p_lies_on := (fun_mk (st := s_p_lies_on) l1 c1 k1).binds (ps := ["a", "b", "c"]) fun _ _ _ _ _ _ us hl => match us, hl with | [_, _, _], _ => rfl
    F_p_sides_of := fun_mk (st := s_p_sides_of) l2 c2 k2
    g_p_sides_of := PySem.W.mg_of X G a2
    b_p_sides_of := (fun_mk (st := s_p_sides_of) l2 c2 k2).binds (ps := ["corners"]) fun _ _ _ _ _ _ us hl => match us, hl with | [_], _ => rfl
    F_p_twice_area_of := fun_mk (st := s_p_twice_area_of) l3 c3 k3
    g_p_twice_area_of := PySem.W.mg_of X G a3
    b_p_twice_area_of := (fun_mk (st := s_p_twice_area_of) l3 c3 k3).binds (ps := ["corners"]) fun _ _ _ _ _ _ us hl => match us, hl with | [_], _ => rfl
    F_p_in_order := fun_mk (st := s_p_in_order) l4 c4 k4
    g_p_in_order := PySem.W.mg_of X G a4
    b_p_in_order := (fun_mk (st := s_p_in_order) l4 c4 k4).binds (ps := ["corners"]) fun _ _ _ _ _ _ us hl => match us, hl with | [_], _ => rfl
    F_p_moved := fun_mk (st := s_p_moved) l5 c5 k5
    g_p_moved := PySem.W.mg_of X G a5
    b_p_moved := (fun_mk (st := s_p_moved) l5 c5 k5).binds (ps := ["plot", "spot"]) fun _ _ _ _ _ _ us hl => match us, hl with | [_, _], _ => rfl
    F_p_turned := fun_mk (st := s_p_turned) l6 c6 k6
    g_p_turned := PySem.W.mg_of X G a6
    b_p_turned := (fun_mk (st := s_p_turned) l6 c6 k6).binds (ps := ["plot"]) fun _ _ _ _ _ _ us hl => match us, hl with | [_], _ => rfl
    F_p_mirrored := fun_mk (st := s_p_mirrored) l7 c7 k7
    g_p_mirrored := PySem.W.mg_of X G a7
    b_p_mirrored := (fun_mk (st := s_p_mirrored) l7 c7 k7).binds (ps := ["plot"]) fun _ _ _ _ _ _ us hl => match us, hl with | [_], _ => rfl
    F_p_sheared := fun_mk (st := s_p_sheared) l8 c8 k8
    g_p_sheared := PySem.W.mg_of X G a8
    b_p_sheared := (fun_mk (st := s_p_sheared) l8 c8 k8).binds (ps := ["plot", "by"]) fun _ _ _ _ _ _ us hl => match us, hl with | [_, _], _ => rfl
    F_p_divisor := fun_mk (st := s_p_divisor) l9 c9 k9
    g_p_divisor := PySem.W.mg_of X G a9
    b_p_divisor := (fun_mk (st := s_p_divisor) l9 c9 k9).binds (ps := ["one", "other"]) fun _ _ _ _ _ _ us hl => match us, hl with | [_, _], _ => rfl
    F_p_twice_area := fun_mk (st := s_p_twice_area) l10 c10 k10
    g_p_twice_area := PySem.W.mg_of X G a10
    b_p_twice_area := (fun_mk (st := s_p_twice_area) l10 c10 k10).binds (ps := ["plot"]) fun _ _ _ _ _ _ us hl => match us, hl with | [_], _ => rfl
    F_p_fence_stakes := fun_mk (st := s_p_fence_stakes) l11 c11 k11
    g_p_fence_stakes := PySem.W.mg_of X G a11
    b_p_fence_stakes := (fun_mk (st := s_p_fence_stakes) l11 c11 k11).binds (ps := ["plot"]) fun _ _ _ _ _ _ us hl => match us, hl with | [_], _ => rfl
    F_p_height := fun_mk (st := s_p_height) l12 c12 k12
    g_p_height := PySem.W.mg_of X G a12
    b_p_height := (fun_mk (st := s_p_height) l12 c12 k12).binds (ps := ["spot"]) fun _ _ _ _ _ _ us hl => match us, hl with | [_], _ => rfl
    F_p_where := fun_mk (st := s_p_where) l13 c13 k13
    g_p_where := PySem.W.mg_of X G a13
    b_p_where := (fun_mk (st := s_p_where) l13 c13 k13).binds (ps := ["plot", "spot"]) fun _ _ _ _ _ _ us hl => match us, hl with | [_, _], _ => rfl
    F_p_inner_stakes := fun_mk (st := s_p_inner_stakes) l14 c14 k14
    g_p_inner_stakes := PySem.W.mg_of X G a14
    b_p_inner_stakes := (fun_mk (st := s_p_inner_stakes) l14 c14 k14).binds (ps := ["plot"]) fun _ _ _ _ _ _ us hl => match us, hl with | [_], _ => rfl
    F_l_cell_at := fun_mk (st := s_l_cell_at) l15 c15 k15
    g_l_cell_at := PySem.W.mg_of X G a15
    b_l_cell_at := (fun_mk (st := s_l_cell_at) l15 c15 k15).binds (ps := ["_law_script", "_law_k"]) fun _ _ _ _ _ _ us hl => match us, hl with | [_, _], _ => rfl
    F_l_mixed := fun_mk (st := s_l_mixed) l16 c16 k16
    g_l_mixed := PySem.W.mg_of X G a16
    b_l_mixed := (fun_mk (st := s_l_mixed) l16 c16 k16).binds (ps := ["_law_script", "_law_k"]) fun _ _ _ _ _ _ us hl => match us, hl with | [_, _], _ => rfl
    F_l_drawn := fun_mk (st := s_l_drawn) l17 c17 k17
    g_l_drawn := PySem.W.mg_of X G a17
    b_l_drawn := (fun_mk (st := s_l_drawn) l17 c17 k17).binds (ps := ["_law_number_here", "_law_k"]) fun _ _ _ _ _ _ us hl => match us, hl with | [_, _], _ => rfl
    F_l_turn := fun_mk (st := s_l_turn) l18 c18 k18
    g_l_turn := PySem.W.mg_of X G a18
    b_l_turn := (fun_mk (st := s_l_turn) l18 c18 k18).binds (ps := ["_law_a", "_law_b", "_law_c"]) fun _ _ _ _ _ _ us hl => match us, hl with | [_, _, _], _ => rfl
    F_l_on := fun_mk (st := s_l_on) l19 c19 k19
    g_l_on := PySem.W.mg_of X G a19
    b_l_on := (fun_mk (st := s_l_on) l19 c19 k19).binds (ps := ["_law_a", "_law_b", "_law_c"]) fun _ _ _ _ _ _ us hl => match us, hl with | [_, _, _], _ => rfl
    F_l_next := fun_mk (st := s_l_next) l20 c20 k20
    g_l_next := PySem.W.mg_of X G a20
    b_l_next := (fun_mk (st := s_l_next) l20 c20 k20).binds (ps := ["_law_corners", "_law_at", "_law_by"]) fun _ _ _ _ _ _ us hl => match us, hl with | [_, _, _], _ => rfl
    F_l_area := fun_mk (st := s_l_area) l21 c21 k21
    g_l_area := PySem.W.mg_of X G a21
    b_l_area := (fun_mk (st := s_l_area) l21 c21 k21).binds (ps := ["_law_corners"]) fun _ _ _ _ _ _ us hl => match us, hl with | [_], _ => rfl
    F_l_in_order := fun_mk (st := s_l_in_order) l22 c22 k22
    g_l_in_order := PySem.W.mg_of X G a22
    b_l_in_order := (fun_mk (st := s_l_in_order) l22 c22 k22).binds (ps := ["_law_corners"]) fun _ _ _ _ _ _ us hl => match us, hl with | [_], _ => rfl
    F_l_meet := fun_mk (st := s_l_meet) l23 c23 k23
    g_l_meet := PySem.W.mg_of X G a23
    b_l_meet := (fun_mk (st := s_l_meet) l23 c23 k23).binds (ps := ["_law_a", "_law_b", "_law_c", "_law_d"]) fun _ _ _ _ _ _ us hl => match us, hl with | [_, _, _, _], _ => rfl
    F_l_turns := fun_mk (st := s_l_turns) l24 c24 k24
    g_l_turns := PySem.W.mg_of X G a24
    b_l_turns := (fun_mk (st := s_l_turns) l24 c24 k24).binds (ps := ["_law_corners"]) fun _ _ _ _ _ _ us hl => match us, hl with | [_], _ => rfl
    F_l_is_good := fun_mk (st := s_l_is_good) l25 c25 k25
    g_l_is_good := PySem.W.mg_of X G a25
    b_l_is_good := (fun_mk (st := s_l_is_good) l25 c25 k25).binds (ps := ["_law_corners"]) fun _ _ _ _ _ _ us hl => match us, hl with | [_], _ => rfl
    F_l_spots := fun_mk (st := s_l_spots) l26 c26 k26
    g_l_spots := PySem.W.mg_of X G a26
    b_l_spots := (fun_mk (st := s_l_spots) l26 c26 k26).binds (ps := ["_law_number_here", "_law_wide", "_law_many"]) fun _ _ _ _ _ _ us hl => match us, hl with | [_, _, _], _ => rfl
    F_l_saw := fun_mk (st := s_l_saw) l27 c27 k27
    g_l_saw := PySem.W.mg_of X G a27
    b_l_saw := (fun_mk (st := s_l_saw) l27 c27 k27).binds (ps := ["_law_number_here", "_law_wide"]) fun _ _ _ _ _ _ us hl => match us, hl with | [_, _], _ => rfl
    F_l_plot := fun_mk (st := s_l_plot) l28 c28 k28
    g_l_plot := PySem.W.mg_of X G a28
    b_l_plot := (fun_mk (st := s_l_plot) l28 c28 k28).binds (ps := ["_law_number_here", "_law_wide"]) fun _ _ _ _ _ _ us hl => match us, hl with | [_, _], _ => rfl
    F_l_law_k50 := fun_mk (st := s_l_law_k50) l29 c29 k29
    g_l_law_k50 := PySem.W.mg_of X G a29
    b_l_law_k50 := (fun_mk (st := s_l_law_k50) l29 c29 k29).binds (ps := ["_law_script"]) fun _ _ _ _ _ _ us hl => match us, hl with | [_], _ => rfl
  }
  exact ⟨ad.fd_l_law_k50, fun s v => .of_eq rfl, fun base _ _ => fn_sure (ok_l_law_k50 (Cl := (clsF 0 0 0)) T)⟩
end PL

open PySem PySem.W PyProof.Rows
set_option maxHeartbeats 0 in
theorem PySem.Challenge.cw_plotstead_k50_whole_changes_holds : PySem.Challenge.rw_plotstead_k50_whole_changes.Holds := by
  w_on; o_law; k_head; (case hw => w_witness2)
  k_fill
  refine L2.walk_of (l := PySem.Challenge.rw_plotstead_k50_whole_changes) (n := 63) (k := 6) (x := "_law_script") (CX := fun _ => L2.CX0) (sp := fun w => PL.spF _ (fun _ => 0) 1 (PL.pureS PL.m_l_law_k50)) rfl (by decide) rfl ⟨rfl, by decide, by decide⟩ (fun w h Y => PySem.W.kIn_of Y) ?F (fun _ _ a ns hl _ hS => PL.law_end (PL.pure_ok' (PL.law50_true ns)) hS) (fun _ _ _ _ _ h => h)
  case F =>
    intro w mg fa h KX G hmg
    refine' PL.all_mk KX G hmg ?a0 ?l0 ?c0 ?k0 ?a1 ?l1 ?c1 ?k1 ?a2 ?l2 ?c2 ?k2 ?a3 ?l3 ?c3 ?k3 ?a4 ?l4 ?c4 ?k4 ?a5 ?l5 ?c5 ?k5 ?a6 ?l6 ?c6 ?k6 ?a7 ?l7 ?c7 ?k7 ?a8 ?l8 ?c8 ?k8 ?a9 ?l9 ?c9 ?k9 ?a10 ?l10 ?c10 ?k10 ?a11 ?l11 ?c11 ?k11 ?a12 ?l12 ?c12 ?k12 ?a13 ?l13 ?c13 ?k13 ?a14 ?l14 ?c14 ?k14 ?a15 ?l15 ?c15 ?k15 ?a16 ?l16 ?c16 ?k16 ?a17 ?l17 ?c17 ?k17 ?a18 ?l18 ?c18 ?k18 ?a19 ?l19 ?c19 ?k19 ?a20 ?l20 ?c20 ?k20 ?a21 ?l21 ?c21 ?k21 ?a22 ?l22 ?c22 ?k22 ?a23 ?l23 ?c23 ?k23 ?a24 ?l24 ?c24 ?k24 ?a25 ?l25 ?c25 ?k25 ?a26 ?l26 ?c26 ?k26 ?a27 ?l27 ?c27 ?k27 ?a28 ?l28 ?c28 ?k28 ?a29 ?l29 ?c29 ?k29 ?z0 ?z1 ?z2 ?z3 ?z4 ?z5 ?z6 ?z7 ?z8 ?z9 
    (case a0 => k_is); (case l0 => k_is); (case c0 => k_is); (case k0 => k_is); (case a1 => k_is); (case l1 => k_is); (case c1 => k_is); (case k1 => k_is); (case a2 => k_is); (case l2 => k_is); (case c2 => k_is); (case k2 => k_is); (case a3 => k_is); (case l3 => k_is); (case c3 => k_is); (case k3 => k_is); (case a4 => k_is); (case l4 => k_is); (case c4 => k_is); (case k4 => k_is); (case a5 => k_is); (case l5 => k_is); (case c5 => k_is); (case k5 => k_is); (case a6 => k_is); (case l6 => k_is); (case c6 => k_is); (case k6 => k_is); (case a7 => k_is); (case l7 => k_is); (case c7 => k_is); (case k7 => k_is); (case a8 => k_is); (case l8 => k_is); (case c8 => k_is); (case k8 => k_is); (case a9 => k_is); (case l9 => k_is); (case c9 => k_is); (case k9 => k_is); (case a10 => k_is); (case l10 => k_is); (case c10 => k_is); (case k10 => k_is); (case a11 => k_is); (case l11 => k_is); (case c11 => k_is); (case k11 => k_is); (case a12 => k_is); (case l12 => k_is); (case c12 => k_is); (case k12 => k_is); (case a13 => k_is); (case l13 => k_is); (case c13 => k_is); (case k13 => k_is); (case a14 => k_is); (case l14 => k_is); (case c14 => k_is); (case k14 => k_is); (case a15 => k_is); (case l15 => k_is); (case c15 => k_is); (case k15 => k_is); (case a16 => k_is); (case l16 => k_is); (case c16 => k_is); (case k16 => k_is); (case a17 => k_is); (case l17 => k_is); (case c17 => k_is); (case k17 => k_is); (case a18 => k_is); (case l18 => k_is); (case c18 => k_is); (case k18 => k_is); (case a19 => k_is); (case l19 => k_is); (case c19 => k_is); (case k19 => k_is); (case a20 => k_is); (case l20 => k_is); (case c20 => k_is); (case k20 => k_is); (case a21 => k_is); (case l21 => k_is); (case c21 => k_is); (case k21 => k_is); (case a22 => k_is); (case l22 => k_is); (case c22 => k_is); (case k22 => k_is); (case a23 => k_is); (case l23 => k_is); (case c23 => k_is); (case k23 => k_is); (case a24 => k_is); (case l24 => k_is); (case c24 => k_is); (case k24 => k_is); (case a25 => k_is); (case l25 => k_is); (case c25 => k_is); (case k25 => k_is); (case a26 => k_is); (case l26 => k_is); (case c26 => k_is); (case k26 => k_is); (case a27 => k_is); (case l27 => k_is); (case c27 => k_is); (case k27 => k_is); (case a28 => k_is); (case l28 => k_is); (case c28 => k_is); (case k28 => k_is); (case a29 => k_is); (case l29 => k_is); (case c29 => k_is); (case k29 => k_is); (case z0 => k_is); (case z1 => k_is); (case z2 => k_is); (case z3 => k_is); (case z4 => k_is); (case z5 => k_is); (case z6 => k_is); (case z7 => k_is); (case z8 => k_is); (case z9 => k_is)

