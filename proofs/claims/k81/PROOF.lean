import PyProof.Rows.All
import Wide.All
import OpenK.AllK
import Wide.FinOn
import HandS.ForMost
import HandS.Deep
import HandS.IsInst
import HandS.Zip
import KE.GoesMore
import KE.GoesEnum
import KE.GoesZip
import HandS.Walk
import HandS.More
import HandS.FStr
import HandS.Conv
import HandS.TupAny
import HandS.Dict
import PyProof.StrBlock2
import HandS.Exc
import HandS.ExcIs
import HandS.ExcField
import HandS.OwnEq
import PyProof.InstEq
import HandS.ExcInit
import HandS.WordsExc
import HandS.Style
import PyProof.Rows.RegFStrParts
import PyProof.ReprRoads
import HandS.Lambda
import HandS.HeadHook4
import HandS.HeadWalk
import HandS.Head2
import HandS.MakeKwOnly
import KE.KStateDown
import Lean
import HandS.Head0
import HandS.Head1
import PySem.Challenge.RW_leastequal_k81_code_made_and_refused
set_option Elab.async false
set_option linter.all false
set_option maxRecDepth 100000
set_option maxHeartbeats 4000000
/-! LQ: data read off a heap; expressions and blocks that give data and leave what stood. -/
namespace L2
open PySem PySem.Spec PyProof.Rows

/-! ### heaps -/
def hid (Z : List Addr) (H : Hp) : Hp := fun b => if b ∈ Z then none else H b
theorem hid_in {Z : List Addr} {H : Hp} {b : Addr} (h : b ∈ Z) : hid Z H b = none := if_pos h
theorem hid_out {Z : List Addr} {H : Hp} {b : Addr} (h : b ∉ Z) : hid Z H b = H b := if_neg h
theorem hid_some {Z : List Addr} {H : Hp} {b : Addr} {o : HO} (h : hid Z H b = some o) : b ∉ Z ∧ H b = some o := by
  by_cases hb : b ∈ Z
  · rw [hid_in hb] at h; cases h
  · exact ⟨hb, by rw [hid_out hb] at h; exact h⟩
theorem hid_sub {Z : List Addr} {H : Hp} : Same (hid Z H) H := fun b o h => (hid_some h).2
theorem same_hid {Z : List Addr} {H H' : Hp} (s : Same H H') : Same (hid Z H) (hid Z H') := fun b o h => by
  obtain ⟨h1, h2⟩ := hid_some h
  rw [hid_out h1]; exact s b o h2
theorem same_but {Z : List Addr} {H H' : Hp} (s : ∀ b o, b ∉ Z → H b = some o → H' b = some o) : Same (hid Z H) (hid Z H') := fun b o h => by
  obtain ⟨h1, h2⟩ := hid_some h
  rw [hid_out h1]; exact s b o h1 h2
theorem hid_nil {H : Hp} : hid [] H = H := by funext b; exact if_neg (by simp)
theorem hid_less {Z Z' : List Addr} {H : Hp} (h : ∀ b, b ∈ Z' → b ∈ Z) : Same (hid Z H) (hid Z' H) := fun b o e => by
  obtain ⟨h1, h2⟩ := hid_some e
  rw [hid_out fun z => h1 (h b z)]; exact h2
def Occ (Z : List Addr) (H : Hp) : Prop := ∀ z ∈ Z, H z ≠ none
theorem Occ.same {Z : List Addr} {H H' : Hp} (o : Occ Z H) (s : Same H H') : Occ Z H' := fun z hz e => by
  cases q : H z with
  | none => exact o z hz q
  | some u => rw [s z u q] at e; cases e
theorem Occ.nil {H : Hp} : Occ [] H := fun z hz => by cases hz
theorem Occ.new {Z : List Addr} {H : Hp} (o : Occ Z H) {p : Addr} (hp : H p = none) : p ∉ Z := fun hz => o p hz hp
theorem same_upd {H : Hp} {p : Addr} {o : HO} (hp : H p = none) : Same H (upd H p o) := fun b u e => by rw [upd_ne (ne_of_none e hp)]; exact e
theorem Same.upd {H H1 : Hp} {p : Addr} {o : HO} (s : Same H H1) (hp : H1 p = none) : Same H (L2.upd H1 p o) := s.trans (same_upd hp)
theorem hid_upd {Z : List Addr} {H : Hp} {p : Addr} {o : HO} (hp : p ∉ Z) : hid Z (upd H p o) p = some o := by rw [hid_out hp, upd_same]
theorem same_t {K : PySem.W.Frag} {H H' : Hp} {a : Addr} {xs : List V} (e : Same H H') (h : SqT K H a xs) : SqT K H' a xs := by
  rcases h with (h | ⟨o, h⟩) | h
  · exact .inl (.inl (e _ _ h))
  · exact .inl (.inr ⟨o, e _ _ h⟩)
  · exact .inr h

/-! ### data: lists that are tracked as such -/
mutual
inductive Dx (K : PySem.W.Frag) (H : Hp) : V → PyData → Prop
  | non : Dx K H .non .none
  | bl (b : Bool) : Dx K H (.bl b) (.bool b)
  | int (i : Int) : Dx K H (.int i) (.int i)
  | str (x : Str) : Dx K H (.str x) (.str x)
  | lst {a : Addr} {xs : List V} {ds : List PyData} : H a = some (.lst xs) → DxAll K H xs ds → Dx K H (.ref a) (.list ds)
  | tup {a : Addr} {xs : List V} {ds : List PyData} : SqT K H a xs → DxAll K H xs ds → Dx K H (.ref a) (.tuple ds)
inductive DxAll (K : PySem.W.Frag) (H : Hp) : List V → List PyData → Prop
  | nil : DxAll K H [] []
  | cons {v : V} {vs : List V} {d : PyData} {ds : List PyData} : Dx K H v d → DxAll K H vs ds → DxAll K H (v :: vs) (d :: ds)
end
mutual
theorem Dx.dp {K : PySem.W.Frag} {H : Hp} : ∀ (d : PyData) (v : V), Dx K H v d → L2.Dp K H v d
  | .none, _, h => by cases h; exact .non
  | .bool b, _, h => by cases h; exact .bl b
  | .int i, _, h => by cases h; exact .int i
  | .str x, _, h => by cases h; exact .str x
  | .list ds, _, h => by cases h with | lst hs ha => exact .lst (.inl (.inl hs)) (DxAll.dp ds _ ha)
  | .tuple ds, _, h => by cases h with | tup hs ha => exact .tup hs (DxAll.dp ds _ ha)
  | .dict _, _, h => by cases h
theorem DxAll.dp {K : PySem.W.Frag} {H : Hp} : ∀ (ds : List PyData) (vs : List V), DxAll K H vs ds → L2.DpAll K H vs ds
  | [], _, h => by cases h; exact .nil
  | d :: ds, _, h => by cases h with | cons h1 h2 => exact .cons (Dx.dp d _ h1) (DxAll.dp ds _ h2)
end
mutual
theorem Dx.same {K : PySem.W.Frag} {H H' : Hp} (e : Same H H') : ∀ (d : PyData) (v : V), Dx K H v d → Dx K H' v d
  | .none, _, h => by cases h; exact .non
  | .bool b, _, h => by cases h; exact .bl b
  | .int i, _, h => by cases h; exact .int i
  | .str x, _, h => by cases h; exact .str x
  | .list ds, _, h => by cases h with | lst hs ha => exact .lst (e _ _ hs) (DxAll.same e ds _ ha)
  | .tuple ds, _, h => by cases h with | tup hs ha => exact .tup (same_t e hs) (DxAll.same e ds _ ha)
  | .dict _, _, h => by cases h
theorem DxAll.same {K : PySem.W.Frag} {H H' : Hp} (e : Same H H') : ∀ (ds : List PyData) (vs : List V), DxAll K H vs ds → DxAll K H' vs ds
  | [], _, h => by cases h; exact .nil
  | d :: ds, _, h => by cases h with | cons h1 h2 => exact .cons (Dx.same e d _ h1) (DxAll.same e ds _ h2)
end
section
variable {K : PySem.W.Frag} {H : Hp}
theorem DxAll.length : ∀ {vs : List V} {ds : List PyData}, DxAll K H vs ds → vs.length = ds.length
  | _, _, .nil => rfl
  | _, _, .cons _ t => by rw [List.length_cons, List.length_cons, DxAll.length t]
theorem DxAll.get : ∀ {vs : List V} {ds : List PyData} {i : Nat} {v : V} {d : PyData}, DxAll K H vs ds → vs[i]? = some v → ds[i]? = some d → Dx K H v d
  | _, _, _, _, _, .nil, e, _ => by simp at e
  | _, _, 0, _, _, .cons h _, e, e' => by simp at e e'; subst e; subst e'; exact h
  | _, _, i + 1, _, _, .cons _ t, e, e' => DxAll.get (i := i) t (by simpa using e) (by simpa using e')
theorem DxAll.getV {vs : List V} {ds : List PyData} {i : Nat} {v : V} (h : DxAll K H vs ds) (e : vs[i]? = some v) : ∃ d, ds[i]? = some d ∧ Dx K H v d := by
  have hl := h.length
  obtain ⟨hi, _⟩ := List.getElem?_eq_some_iff.mp e
  have e' : ds[i]? = some ds[i] := List.getElem?_eq_getElem (by omega)
  exact ⟨_, e', h.get e e'⟩
theorem DxAll.getD {vs : List V} {ds : List PyData} {i : Nat} {d : PyData} (h : DxAll K H vs ds) (e : ds[i]? = some d) : ∃ v, vs[i]? = some v ∧ Dx K H v d := by
  have hl := h.length
  obtain ⟨hi, _⟩ := List.getElem?_eq_some_iff.mp e
  have e' : vs[i]? = some vs[i] := List.getElem?_eq_getElem (by omega)
  exact ⟨_, e', h.get e' e⟩
theorem DxAll.append : ∀ {vs ws : List V} {ds es : List PyData}, DxAll K H vs ds → DxAll K H ws es → DxAll K H (vs ++ ws) (ds ++ es)
  | _, _, _, _, .nil, t => t
  | _, _, _, _, .cons h r, t => .cons h (DxAll.append r t)
theorem DxAll.take : ∀ {vs : List V} {ds : List PyData} (n : Nat), DxAll K H vs ds → DxAll K H (vs.take n) (ds.take n)
  | _, _, 0, _ => .nil
  | _, _, _ + 1, .nil => .nil
  | _, _, n + 1, .cons h t => .cons h (DxAll.take n t)
theorem DxAll.drop : ∀ {vs : List V} {ds : List PyData} (n : Nat), DxAll K H vs ds → DxAll K H (vs.drop n) (ds.drop n)
  | _, _, 0, h => h
  | _, _, _ + 1, .nil => .nil
  | _, _, n + 1, .cons _ t => DxAll.drop n t
theorem DxAll.snoc {vs : List V} {ds : List PyData} {v : V} {d : PyData} (h : DxAll K H vs ds) (q : Dx K H v d) : DxAll K H (vs ++ [v]) (ds ++ [d]) := h.append (.cons q .nil)
theorem DxAll.of_get : ∀ {vs : List V} {ds : List PyData}, vs.length = ds.length → (∀ (i : Nat) (v : V) (d : PyData), vs[i]? = some v → ds[i]? = some d → Dx K H v d) → DxAll K H vs ds
  | [], [], _, _ => .nil
  | [], _ :: _, h, _ => by simp at h
  | _ :: _, [], h, _ => by simp at h
  | v :: vs, d :: ds, h, q => .cons (q 0 v d rfl rfl) (DxAll.of_get (by simpa using h) fun i v' d' e e' => q (i + 1) v' d' (by simpa using e) (by simpa using e'))
theorem Dx.bl_inv {v : V} {b : Bool} (h : Dx K H v (.bool b)) : v = .bl b := by cases h; rfl
theorem Dx.int_inv {v : V} {i : Int} (h : Dx K H v (.int i)) : v = .int i := by cases h; rfl
theorem Dx.str_inv {v : V} {x : Str} (h : Dx K H v (.str x)) : v = .str x := by cases h; rfl
theorem Dx.non_inv {v : V} (h : Dx K H v .none) : v = .non := by cases h; rfl
theorem Dx.lst_inv {v : V} {ds : List PyData} (h : Dx K H v (.list ds)) : ∃ a xs, v = .ref a ∧ SqL K H a xs ∧ DxAll K H xs ds := by cases h with | lst hs ha => exact ⟨_, _, rfl, .inl (.inl hs), ha⟩
theorem Dx.lst_at {v : V} {ds : List PyData} (h : Dx K H v (.list ds)) : ∃ a xs, v = .ref a ∧ H a = some (.lst xs) ∧ DxAll K H xs ds := by cases h with | lst hs ha => exact ⟨_, _, rfl, hs, ha⟩
theorem Dx.tup_inv {v : V} {ds : List PyData} (h : Dx K H v (.tuple ds)) : ∃ a xs, v = .ref a ∧ SqT K H a xs ∧ DxAll K H xs ds := by cases h with | tup hs ha => exact ⟨_, _, rfl, hs, ha⟩
theorem DxAll.bools : ∀ {vs : List V} {bs : List Bool}, DxAll K H vs (bs.map PyData.bool) → vs = bs.map V.bl
  | _, [], h => by cases h; rfl
  | _, b :: bs, h => by
    cases h with
    | cons h1 h2 => rw [h1.bl_inv, DxAll.bools h2]; rfl
end

/-! ### what an expression gives -/
section
variable (K : PySem.W.Frag) (Z : List Addr)
def Ev (te : TE) (σ : St) (G : Hp) (d : PyData) : Prop := ∀ H1, Same G (hid Z H1) → Occ Z H1 → ∀ Q : VK, (∀ v H2, Same H1 H2 → Dx K (hid Z H2) v d → Q v H2) → te σ H1 Q
def An (t : TT) (σ : St) (G : Hp) (b : Bool) : Prop := ∀ H1, Same G (hid Z H1) → Occ Z H1 → ∀ Q : Bool → Hp → Prop, (∀ H2, Same H1 H2 → Q b H2) → t σ H1 Q
def EvA (ta : TA) (σ : St) (G : Hp) (ds : List PyData) : Prop := ∀ H1, Same G (hid Z H1) → Occ Z H1 → ∀ Q : List V → Hp → Prop, (∀ vs H2, Same H1 H2 → DxAll K (hid Z H2) vs ds → Q vs H2) → ta σ H1 Q
/-- a block that hands back -/
def SR (t : TS) (σ : St) (G : Hp) (d : PyData) : Prop := ∀ H1, Same G (hid Z H1) → Occ Z H1 → ∀ D : Ends, (∀ v H2, Same H1 H2 → Dx K (hid Z H2) v d → D.rt v H2) → t D σ H1
end
section
variable {K : PySem.W.Frag} {Z : List Addr} {σ : St} {G G' : Hp} {d d1 d2 : PyData} {ds : List PyData} {te ta tb : TE} {t u tc : TT} {b b1 b2 : Bool} {i : Nat} {v : V} {tas : TA}
theorem Ev.mono (h : Ev K Z te σ G d) (s : Same G G') : Ev K Z te σ G' d := fun H1 s1 o Q q => h H1 (s.trans s1) o Q q
theorem An.mono (h : An Z t σ G b) (s : Same G G') : An Z t σ G' b := fun H1 s1 o Q q => h H1 (s.trans s1) o Q q
theorem Ev.to (h : Ev K Z te σ G d) (e : d = d1) : Ev K Z te σ G d1 := e ▸ h
theorem An.to (h : An Z t σ G b) (e : b = b1) : An Z t σ G b1 := e ▸ h
theorem ev_var (h : σ[i]? = some (some v)) (hd : Dx K G v d) : Ev K Z (tVar i) σ G d := fun H1 s o Q q => ⟨v, h, q v H1 (Same.refl _) (Dx.same s d v hd)⟩
theorem ev_c (hd : ∀ H, Dx K H v d) : Ev K Z (tC v) σ G d := fun H1 s o Q q => q v H1 (Same.refl _) (hd _)
theorem ev_int {n : Int} : Ev K Z (tC (.int n)) σ G (.int n) := ev_c fun _ => .int n
theorem ev_str {x : Str} : Ev K Z (tC (.str x)) σ G (.str x) := ev_c fun _ => .str x
theorem ev_bl {x : Bool} : Ev K Z (tC (.bl x)) σ G (.bool x) := ev_c fun _ => .bl x
theorem ev_non : Ev K Z (tC .non) σ G .none := ev_c fun _ => .non
/-- a constant of the module -/
theorem ev_k (hd : Dx K G v d) : Ev K Z (tC v) σ G d := fun H1 s o Q q => q v H1 (Same.refl _) (Dx.same s d v hd)

theorem an_tB (h : Ev K Z te σ G (.bool b)) : An Z (tB te) σ G b := fun H1 s o Q q => h H1 s o _ fun v H2 s2 dv => ⟨b, dv.bl_inv, q H2 s2⟩
theorem an_test (h : Ev K Z te σ G (.bool b)) : An Z (tTest te) σ G b := fun H1 s o Q q => h H1 s o _ fun v H2 s2 dv => ⟨b, dv.bl_inv, q H2 s2⟩
theorem an_not (h : An Z t σ G b) : An Z (tNot t) σ G (!b) := fun H1 s o Q q => h H1 s o _ fun H2 s2 => q H2 s2
theorem an_and (h : An Z t σ G b1) (h2 : b1 = true → An Z u σ G b2) : An Z (tAnd t u) σ G (b1 && b2) := fun H1 s o Q q => h H1 s o _ fun H2 s2 => by
  cases b1 with
  | true => exact iteT (h2 rfl H2 (s.trans (same_hid s2)) (o.same s2) _ fun H3 s3 => q H3 (s2.trans s3))
  | false => exact iteF (q H2 s2)
theorem an_or (h : An Z t σ G b1) (h2 : b1 = false → An Z u σ G b2) : An Z (tOr t u) σ G (b1 || b2) := fun H1 s o Q q => h H1 s o _ fun H2 s2 => by
  cases b1 with
  | false => exact iteF (h2 rfl H2 (s.trans (same_hid s2)) (o.same s2) _ fun H3 s3 => q H3 (s2.trans s3))
  | true => exact iteT (q H2 s2)
theorem ev_andV (h : Ev K Z ta σ G (.bool b1)) (h2 : b1 = true → Ev K Z tb σ G (.bool b2)) : Ev K Z (tAndV ta tb) σ G (.bool (b1 && b2)) := fun H1 s o Q q => h H1 s o _ fun v H2 s2 dv => ⟨b1, dv.bl_inv, by
  cases b1 with
  | true => exact iteT (h2 rfl H2 (s.trans (same_hid s2)) (o.same s2) _ fun w H3 s3 dw => q w H3 (s2.trans s3) dw)
  | false => exact iteF (q _ H2 s2 (.bl false))⟩
theorem ev_orV (h : Ev K Z ta σ G (.bool b1)) (h2 : b1 = false → Ev K Z tb σ G (.bool b2)) : Ev K Z (tOrV ta tb) σ G (.bool (b1 || b2)) := fun H1 s o Q q => h H1 s o _ fun v H2 s2 dv => ⟨b1, dv.bl_inv, by
  cases b1 with
  | false => exact iteF (h2 rfl H2 (s.trans (same_hid s2)) (o.same s2) _ fun w H3 s3 dw => q w H3 (s2.trans s3) dw)
  | true => exact iteT (q _ H2 s2 (.bl true))⟩
theorem ev_notV (h : Ev K Z ta σ G (.bool b)) : Ev K Z (tNotV ta) σ G (.bool (!b)) := fun H1 s o Q q => h H1 s o _ fun v H2 s2 dv => ⟨b, dv.bl_inv, q _ H2 s2 (.bl _)⟩
theorem ev_if (h : An Z t σ G b) (h1 : b = true → Ev K Z ta σ G d) (h2 : b = false → Ev K Z tb σ G d) : Ev K Z (tIf t ta tb) σ G d := fun H1 s o Q q => h H1 s o _ fun H2 s2 => by
  cases b with
  | true => exact iteT (h1 rfl H2 (s.trans (same_hid s2)) (o.same s2) _ fun w H3 s3 dw => q w H3 (s2.trans s3) dw)
  | false => exact iteF (h2 rfl H2 (s.trans (same_hid s2)) (o.same s2) _ fun w H3 s3 dw => q w H3 (s2.trans s3) dw)
/-- an operation by values -/
def Rd2 (K : PySem.W.Frag) (r : R2) (d1 d2 d : PyData) : Prop := ∀ (Z : List Addr) (v u : V) (H : Hp), Occ Z H → Dx K (hid Z H) v d1 → Dx K (hid Z H) u d2 → ∀ Q : VK, (∀ w H', Same H H' → Dx K (hid Z H') w d → Q w H') → r v u H Q
theorem ev_op {r : R2} (ha : Ev K Z ta σ G d1) (hb : Ev K Z tb σ G d2) (hr : Rd2 K r d1 d2 d) : Ev K Z (tOp r ta tb) σ G d := fun H1 s o Q q => ha H1 s o _ fun v H2 s2 dv =>
  hb H2 (s.trans (same_hid s2)) (o.same s2) _ fun u H3 s3 du => hr Z v u H3 (o.same (s2.trans s3)) (Dx.same (same_hid s3) _ _ dv) du Q fun w H4 s4 dw => q w H4 (s2.trans (s3.trans s4)) dw
theorem eva_nil : EvA K Z tNil σ G [] := fun H1 s o Q q => q [] H1 (Same.refl _) .nil
theorem eva_cons (h : Ev K Z te σ G d) (ht : EvA K Z tas σ G ds) : EvA K Z (tCons te tas) σ G (d :: ds) := fun H1 s o Q q => h H1 s o _ fun v H2 s2 dv =>
  ht H2 (s.trans (same_hid s2)) (o.same s2) _ fun vs H3 s3 dvs => q (v :: vs) H3 (s2.trans s3) (.cons (Dx.same (same_hid s3) _ _ dv) dvs)
theorem EvA.mono (h : EvA K Z tas σ G ds) (s : Same G G') : EvA K Z tas σ G' ds := fun H1 s1 o Q q => h H1 (s.trans s1) o Q q
/-- a call by values -/
def RdC (K : PySem.W.Frag) (r : List V → Hp → VK → Prop) (ds : List PyData) (d : PyData) : Prop := ∀ (Z : List Addr) (vs : List V) (H : Hp), Occ Z H → DxAll K (hid Z H) vs ds → ∀ Q : VK, (∀ w H', Same H H' → Dx K (hid Z H') w d → Q w H') → r vs H Q
theorem ev_cb {r : List V → Hp → VK → Prop} (ha : EvA K Z tas σ G ds) (hr : RdC K r ds d) : Ev K Z (tCB r tas) σ G d := fun H1 s o Q q => ha H1 s o _ fun vs H2 s2 dvs =>
  hr Z vs H2 (o.same s2) dvs Q fun w H3 s3 dw => q w H3 (s2.trans s3) dw
/-- what a def promises: of data by f, where P -/
def spD (K : PySem.W.Frag) (P : List PyData → Prop) (f : List PyData → PyData) : Sp := fun vs H Q _ => ∃ (Z : List Addr) (ds : List PyData), Occ Z H ∧ DxAll K (hid Z H) vs ds ∧ P ds ∧ ∀ v H', Same H H' → Dx K (hid Z H') v (f ds) → Q v H'
theorem ev_call {P : List PyData → Prop} {f : List PyData → PyData} {E : XK} (ha : EvA K Z tas σ G ds) (hp : P ds) : Ev K Z (tCall (spD K P f) [] E tas) σ G (f ds) := fun H1 s o Q q => ha H1 s o _ fun vs H2 s2 dvs => by
  rw [List.append_nil]
  exact ⟨Z, ds, o.same s2, dvs, hp, fun v H3 s3 dv => q v H3 (s2.trans s3) dv⟩
/-- a new tuple, a new list -/
theorem ev_tup (ha : EvA K Z tas σ G ds) (hz : ds.length ≤ sizeLine) : Ev K Z (tTup tas) σ G (.tuple ds) := fun H1 s o Q q => ha H1 s o _ fun vs H2 s2 dvs =>
  ⟨by rw [dvs.length]; exact hz, fun p hp => q (.ref p) _ (s2.upd hp) (.tup (.inl (.inl (hid_upd ((o.same s2).new hp)))) (DxAll.same (same_hid (same_upd hp)) _ _ dvs))⟩
theorem ev_lst (ha : EvA K Z tas σ G ds) (hz : ds.length ≤ sizeLine) : Ev K Z (tLst tas) σ G (.list ds) := fun H1 s o Q q => ha H1 s o _ fun vs H2 s2 dvs =>
  ⟨by rw [dvs.length]; exact hz, fun p hp => q (.ref p) _ (s2.upd hp) (.lst ((hid_upd ((o.same s2).new hp))) (DxAll.same (same_hid (same_upd hp)) _ _ dvs))⟩

/-! ### blocks -/
variable {ts t1 t2 rest : TS}
theorem SR.mono (h : SR K Z ts σ G d) (s : Same G G') : SR K Z ts σ G' d := fun H1 s1 o D q => h H1 (s.trans s1) o D q
theorem sr_ret (h : Ev K Z te σ G d) : SR K Z (tRet te) σ G d := fun H1 s o D q => h H1 s o _ q
theorem sr_if (h : An Z t σ G b) (h1 : b = true → SR K Z t1 σ G d) (h2 : b = false → SR K Z rest σ G d) : SR K Z (tSeq (tIfS t t1 tNext) rest) σ G d := fun H1 s o D q => h H1 s o _ fun H2 s2 => by
  cases b with
  | true => exact iteT (h1 rfl H2 (s.trans (same_hid s2)) (o.same s2) _ fun w H3 s3 dw => q w H3 (s2.trans s3) dw)
  | false => exact iteF (h2 rfl H2 (s.trans (same_hid s2)) (o.same s2) _ fun w H3 s3 dw => q w H3 (s2.trans s3) dw)
theorem sr_ite (h : An Z t σ G b) (h1 : b = true → SR K Z t1 σ G d) (h2 : b = false → SR K Z t2 σ G d) : SR K Z (tIfS t t1 t2) σ G d := fun H1 s o D q => h H1 s o _ fun H2 s2 => by
  cases b with
  | true => exact iteT (h1 rfl H2 (s.trans (same_hid s2)) (o.same s2) _ fun w H3 s3 dw => q w H3 (s2.trans s3) dw)
  | false => exact iteF (h2 rfl H2 (s.trans (same_hid s2)) (o.same s2) _ fun w H3 s3 dw => q w H3 (s2.trans s3) dw)
theorem sr_set (h : Ev K Z te σ G d1) (h2 : ∀ v G', Same G G' → Dx K G' v d1 → SR K Z rest (σ.set i (some v)) G' d) : SR K Z (tSeq (tAsg te (gName i)) rest) σ G d := fun H1 s o D q =>
  h H1 s o _ fun v H2 s2 dv => h2 v (hid Z H2) (s.trans (same_hid s2)) dv H2 (Same.refl _) (o.same s2) _ fun w H3 s3 dw => q w H3 (s2.trans s3) dw
end

/-! ### a def -/
section
variable {P : Program} {w : World} {K : PySem.W.Frag} {mg : Str → Option Value} {base : Heap}
theorem fn_pure {x qual : Str} {st : Stmt} {f : Addr} {fd : FuncData} {N ps : List Str} {k : Nat} {Pr : List PyData → Prop} {fn : List PyData → PyData} (F : Fun K x qual st f fd) (S : FnScope N ps (defScope st)) (hl : ∀ ds, Pr ds → ds.length = ps.length)
    (hbody : ∀ (cdv : Value) (A : Around) (outer : List Env) (s : Shared) (H : Hp) (E : XK), Room k (A.deeper (envOfC qual (defScope st) s.heap.objs.size f cdv)) →
      ∃ t, PSs (cxOf CX0 P w K mg base N qual (defScope st) f cdv A outer s H E).nox (defBody st) t ∧ ∀ (Z : List Addr) (G : Hp) (vs : List V) (ds : List PyData), DxAll K G vs ds → Pr ds → SR K Z t (start N vs) G (fn ds)) :
    FnOk P w K mg base CX0 (k + 1) f fd ps (spD K Pr fn) := by
  refine F.ok S (fun vs H Q E h => ?_) (fun cdv A outer s H vs Q E hr h => ?_)
  · obtain ⟨Z, ds, _, dv, hp, _⟩ := h
    rw [dv.length]; exact hl ds hp
  · obtain ⟨t, ht, hs⟩ := hbody cdv A outer s H E hr
    obtain ⟨Z, ds, o, dv, hp, q⟩ := h
    exact ⟨t, ht, hs Z (hid Z H) vs ds dv hp H (Same.refl _) o _ fun v H2 s2 dd => q v H2 s2 dd⟩
end
end L2
/-! LQ2: the rules of operators and built-ins over data. -/
namespace L2
open PySem PySem.Spec PyProof.Rows
section
variable {K : PySem.W.Frag} {Z : List Addr} {σ : St} {G G' : Hp} {d d1 d2 e : PyData} {ds es : List PyData} {te ta tb : TE} {t u tc : TT} {b b1 b2 : Bool} {i : Nat} {v : V} {tas : TA}

/-! ### operators -/
theorem rd_i0 {g : Int → Int → V} {i j : Int} (hd : ∀ H, Dx K H (g i j) d) : Rd2 K (rI0 g) (.int i) (.int j) d := fun Z v u H o dv du Q q =>
  ⟨i, j, dv.int_inv, du.int_inv, q _ H (Same.refl _) (hd _)⟩
theorem rd_iC {C : Int → Int → Prop} {g : Int → Int → V} {i j : Int} (hc : C i j) (hd : ∀ H, Dx K H (g i j) d) : Rd2 K (rI C g) (.int i) (.int j) d := fun Z v u H o dv du Q q =>
  ⟨i, j, dv.int_inv, du.int_inv, hc, q _ H (Same.refl _) (hd _)⟩
theorem rd_eqD (h1 : SeqAt.shaped d = true) (h2 : SeqAt.shaped e = true) : Rd2 K (rEqD K) d e (.bool (PyData.eqv d e)) := fun Z v u H o dv du Q q =>
  ⟨d, e, (Dx.same hid_sub _ _ dv).dp, (Dx.same hid_sub _ _ du).dp, h1, h2, q _ H (Same.refl _) (.bl _)⟩
theorem rd_neD (h1 : SeqAt.shaped d = true) (h2 : SeqAt.shaped e = true) : Rd2 K (rNeD K) d e (.bool (!PyData.eqv d e)) := fun Z v u H o dv du Q q =>
  ⟨d, e, (Dx.same hid_sub _ _ dv).dp, (Dx.same hid_sub _ _ du).dp, h1, h2, q _ H (Same.refl _) (.bl _)⟩
theorem rd_eqI {i j : Int} : Rd2 K rEq (.int i) (.int j) (.bool (decide (i = j))) := fun Z v u H o dv du Q q => by
  rw [dv.int_inv, du.int_inv]
  have z : decide (V.int i = V.int j) = decide (i = j) := by simp
  exact ⟨rfl, by rw [z]; exact q _ H (Same.refl _) (.bl _)⟩
theorem rd_neI {i j : Int} : Rd2 K rNe (.int i) (.int j) (.bool (!decide (i = j))) := fun Z v u H o dv du Q q => by
  rw [dv.int_inv, du.int_inv]
  have z : decide (V.int i = V.int j) = decide (i = j) := by simp
  exact ⟨rfl, by rw [z]; exact q _ H (Same.refl _) (.bl _)⟩
theorem rd_eqS {x y : Str} : Rd2 K rEq (.str x) (.str y) (.bool (decide (x = y))) := fun Z v u H o dv du Q q => by
  rw [dv.str_inv, du.str_inv]
  have z : decide (V.str x = V.str y) = decide (x = y) := by simp
  exact ⟨rfl, by rw [z]; exact q _ H (Same.refl _) (.bl _)⟩
theorem rd_neS {x y : Str} : Rd2 K rNe (.str x) (.str y) (.bool (!decide (x = y))) := fun Z v u H o dv du Q q => by
  rw [dv.str_inv, du.str_inv]
  have z : decide (V.str x = V.str y) = decide (x = y) := by simp
  exact ⟨rfl, by rw [z]; exact q _ H (Same.refl _) (.bl _)⟩
def isNoneD : PyData → Bool
  | .none => true
  | _ => false
theorem Dx.isN {H : Hp} {v : V} (h : Dx K H v d) : decide (v = .non) = isNoneD d := by cases h <;> simp [isNoneD]
theorem rd_isN : Rd2 K (fun x y H Q => y = .non ∧ Q (.bl (decide (x = .non))) H) d .none (.bool (isNoneD d)) := fun Z v u H o dv du Q q =>
  ⟨du.non_inv, by rw [dv.isN]; exact q _ H (Same.refl _) (.bl _)⟩
theorem rd_notN : Rd2 K (fun x y H Q => y = .non ∧ Q (.bl (!decide (x = .non))) H) d .none (.bool (!isNoneD d)) := fun Z v u H o dv du Q q =>
  ⟨du.non_inv, by rw [dv.isN]; exact q _ H (Same.refl _) (.bl _)⟩
/-- one sign in a text -/
theorem rd_inSign {c : Nat} {z : Str} : Rd2 K (fun x y H Q => ∃ (c : Nat) (z : Str), x = .str ⟨#[c]⟩ ∧ y = .str z ∧ Q (.bl (decide (c ∈ z.cps.toList))) H) (.str ⟨#[c]⟩) (.str z) (.bool (decide (c ∈ z.cps.toList))) := fun Z v u H o dv du Q q =>
  ⟨c, z, dv.str_inv, du.str_inv, q _ H (Same.refl _) (.bl _)⟩
theorem rd_notInSign {c : Nat} {z : Str} : Rd2 K (fun x y H Q => ∃ (c : Nat) (z : Str), x = .str ⟨#[c]⟩ ∧ y = .str z ∧ Q (.bl (!decide (c ∈ z.cps.toList))) H) (.str ⟨#[c]⟩) (.str z) (.bool (!decide (c ∈ z.cps.toList))) := fun Z v u H o dv du Q q =>
  ⟨c, z, dv.str_inv, du.str_inv, q _ H (Same.refl _) (.bl _)⟩
/-- in a list or tuple of flat things -/
def flatD : PyData → Bool
  | .none => true
  | .bool _ => true
  | .int _ => true
  | .str _ => true
  | _ => false
theorem Dx.flat {H : Hp} {v : V} (h : Dx K H v d) (f : flatD d = true) : flatV v = true := by cases h <;> first | rfl | cases f
theorem DxAll.flat {H : Hp} : ∀ {vs : List V} {ds : List PyData}, DxAll K H vs ds → ds.all flatD = true → vs.all flatV = true
  | _, _, .nil, _ => rfl
  | _, _, .cons h t, f => by
    rw [List.all_cons, Bool.and_eq_true] at f
    rw [List.all_cons, h.flat f.1, DxAll.flat t f.2]; rfl
theorem Dx.eqV {H : Hp} {v w : V} (h : Dx K H v d) (h2 : Dx K H w e) (f : flatD d = true) (f2 : flatD e = true) : eqV v w = PyData.eqv d e := by
  cases h <;> cases h2 <;> first | rfl | (simp [eqV, PyData.eqv]; done) | cases f | cases f2
theorem DxAll.inV {H : Hp} {v : V} (h : Dx K H v d) (f : flatD d = true) : ∀ {vs : List V} {ds : List PyData}, DxAll K H vs ds → ds.all flatD = true → inV v vs = ds.any fun y => PyData.eqv y d
  | _, _, .nil, _ => rfl
  | _, _, .cons h1 t, f1 => by
    rw [List.all_cons, Bool.and_eq_true] at f1
    have ih := DxAll.inV h f t f1.2
    unfold L2.inV at ih ⊢
    rw [List.any_cons, List.any_cons, ih, h1.eqV h f1.1 f]
theorem rd_in (f : flatD d = true) (fs : ds.all flatD = true) (hs : e = .list ds ∨ e = .tuple ds) : Rd2 K (rIn K false) d e (.bool (ds.any fun y => PyData.eqv y d)) := fun Z v u H o dv du Q q => by
  have key : ∃ a xs, u = .ref a ∧ (SqL K H a xs ∨ SqT K H a xs) ∧ DxAll K (hid Z H) xs ds := by
    rcases hs with rfl | rfl
    · obtain ⟨a, xs, e1, h, ha⟩ := du.lst_inv; exact ⟨a, xs, e1, .inl (hid_sub.seq h), ha⟩
    · obtain ⟨a, xs, e1, h, ha⟩ := du.tup_inv; exact ⟨a, xs, e1, .inr (same_t hid_sub h), ha⟩
  obtain ⟨a, xs, e1, h, ha⟩ := key
  refine ⟨a, xs, e1, h, dv.flat f, ha.flat fs, ?_⟩
  show Q (.bl (if false = true then !inV v xs else inV v xs)) H
  rw [if_neg Bool.false_ne_true, DxAll.inV dv f ha fs]
  exact q _ H (Same.refl _) (.bl _)
theorem rd_notIn (f : flatD d = true) (fs : ds.all flatD = true) (hs : e = .list ds ∨ e = .tuple ds) : Rd2 K (rIn K true) d e (.bool (!ds.any fun y => PyData.eqv y d)) := fun Z v u H o dv du Q q => by
  have key : ∃ a xs, u = .ref a ∧ (SqL K H a xs ∨ SqT K H a xs) ∧ DxAll K (hid Z H) xs ds := by
    rcases hs with rfl | rfl
    · obtain ⟨a, xs, e1, h, ha⟩ := du.lst_inv; exact ⟨a, xs, e1, .inl (hid_sub.seq h), ha⟩
    · obtain ⟨a, xs, e1, h, ha⟩ := du.tup_inv; exact ⟨a, xs, e1, .inr (same_t hid_sub h), ha⟩
  obtain ⟨a, xs, e1, h, ha⟩ := key
  refine ⟨a, xs, e1, h, dv.flat f, ha.flat fs, ?_⟩
  show Q (.bl (if true = true then !inV v xs else inV v xs)) H
  rw [if_pos rfl, DxAll.inV dv f ha fs]
  exact q _ H (Same.refl _) (.bl _)
/-- items -/
theorem atI_D {H : Hp} {vs : List V} {ds : List PyData} {i : Int} (h : DxAll K H vs ds) (e : atI ds i = some d) : ∃ v, atI vs i = some v ∧ Dx K H v d := by
  unfold atI at e ⊢
  rw [h.length]
  cases q : ixN ds.length i with
  | none => rw [q] at e; cases e
  | some j =>
    rw [q] at e
    exact h.getD e
theorem rd_ixL {i : Int} (e : atI ds i = some d) : Rd2 K (rIxL K) (.list ds) (.int i) d := fun Z v u H o dv du Q q => by
  obtain ⟨a, xs, e1, h, ha⟩ := dv.lst_inv
  obtain ⟨w, e2, dw⟩ := atI_D ha e
  exact ⟨a, xs, i, w, e1, du.int_inv, hid_sub.seq h, e2, q w H (Same.refl _) dw⟩
theorem rd_ixT {i : Int} (e : atI ds i = some d) : Rd2 K (rIxT K) (.tuple ds) (.int i) d := fun Z v u H o dv du Q q => by
  obtain ⟨a, xs, e1, h, ha⟩ := dv.tup_inv
  obtain ⟨w, e2, dw⟩ := atI_D ha e
  exact ⟨a, xs, i, w, e1, du.int_inv, same_t hid_sub h, e2, q w H (Same.refl _) dw⟩
theorem rd_ixS {z : Str} {i : Int} {c : Nat} (hz : z.length ≤ sizeLine) (e : atI z.cps.toList i = some c) : Rd2 K rIxS (.str z) (.int i) (.str ⟨#[c]⟩) := fun Z v u H o dv du Q q =>
  ⟨z, i, c, dv.str_inv, du.int_inv, hz, e, q _ H (Same.refl _) (.str _)⟩
theorem rd_ixSL {i : Int} (e : atI ds i = some d) : Rd2 K (rIx K) (.list ds) (.int i) d := fun Z v u H o dv du Q q => .inl (rd_ixL e Z v u H o dv du Q q)
theorem rd_ixST {i : Int} (e : atI ds i = some d) : Rd2 K (rIx K) (.tuple ds) (.int i) d := fun Z v u H o dv du Q q => .inr (.inl (rd_ixT e Z v u H o dv du Q q))

/-! ### built-ins -/
theorem rc_lenL : RdC K (fun xs H Q => ∃ x n, xs = [x] ∧ LenV K x H n ∧ Q (.int n) H) [.list ds] (.int ds.length) := fun Z vs H o h Q q => by
  cases h with
  | cons h1 h2 =>
    cases h2
    obtain ⟨a, xs, e1, h, ha⟩ := h1.lst_inv
    rw [e1]
    exact ⟨_, ds.length, rfl, .inl ⟨xs, hid_sub.seq h, ha.length.symm⟩, q _ H (Same.refl _) (.int _)⟩
theorem rc_lenT : RdC K (fun xs H Q => ∃ x n, xs = [x] ∧ LenV K x H n ∧ Q (.int n) H) [.tuple ds] (.int ds.length) := fun Z vs H o h Q q => by
  cases h with
  | cons h1 h2 =>
    cases h2
    obtain ⟨a, xs, e1, h, ha⟩ := h1.tup_inv
    rw [e1]
    exact ⟨_, ds.length, rfl, .inr ⟨xs, same_t hid_sub h, ha.length.symm⟩, q _ H (Same.refl _) (.int _)⟩
theorem rc_lenS {x : Str} (hx : x.length ≤ sizeLine) : RdC K (fun xs H Q => ∃ x n, xs = [x] ∧ LenV K x H n ∧ Q (.int n) H) [.str x] (.int x.length) := fun Z vs H o h Q q => by
  cases h with
  | cons h1 h2 =>
    cases h2
    rw [h1.str_inv]
    exact ⟨_, x.length, rfl, ⟨hx, rfl⟩, q _ H (Same.refl _) (.int _)⟩
theorem rc_all {bs : List Bool} : RdC K (rAll K) [.list (bs.map PyData.bool)] (.bool (bs.all id)) := fun Z vs H o h Q q => by
  cases h with
  | cons h1 h2 =>
    cases h2
    obtain ⟨a, xs, e1, h, ha⟩ := h1.lst_inv
    rw [e1]
    rw [ha.bools] at h
    exact ⟨a, bs, rfl, hid_sub.seq h, q _ H (Same.refl _) (.bl _)⟩
theorem rc_any {bs : List Bool} : RdC K (rAny K) [.list (bs.map PyData.bool)] (.bool (bs.any id)) := fun Z vs H o h Q q => by
  cases h with
  | cons h1 h2 =>
    cases h2
    obtain ⟨a, xs, e1, h, ha⟩ := h1.lst_inv
    rw [e1]
    rw [ha.bools] at h
    exact ⟨a, bs, rfl, hid_sub.seq h, q _ H (Same.refl _) (.bl _)⟩
theorem rc_tupL : RdC K (fun xs H Q => ∃ p ys, xs = [.ref p] ∧ ((SqL K H p ys ∧ ∀ l, H l = none → Q (.ref l) (upd H l (.tup ys))) ∨ (SqT K H p ys ∧ Q (.ref p) H))) [.list ds] (.tuple ds) := fun Z vs H o h Q q => by
  cases h with
  | cons h1 h2 =>
    cases h2
    obtain ⟨a, xs, e1, h, ha⟩ := h1.lst_inv
    rw [e1]
    exact ⟨a, xs, rfl, .inl ⟨hid_sub.seq h, fun l hl => q _ _ (same_upd hl) (.tup (.inl (.inl (hid_upd (o.new hl)))) (DxAll.same (same_hid (same_upd hl)) _ _ ha))⟩⟩
theorem rc_tupT : RdC K (fun xs H Q => ∃ p ys, xs = [.ref p] ∧ ((SqL K H p ys ∧ ∀ l, H l = none → Q (.ref l) (upd H l (.tup ys))) ∨ (SqT K H p ys ∧ Q (.ref p) H))) [.tuple ds] (.tuple ds) := fun Z vs H o h Q q => by
  cases h with
  | cons h1 h2 =>
    cases h2
    obtain ⟨a, xs, e1, h, ha⟩ := h1.tup_inv
    have h1' := h1
    rw [e1] at h1' ⊢
    exact ⟨a, xs, rfl, .inr ⟨same_t hid_sub h, q _ H (Same.refl _) h1'⟩⟩
theorem rc_listOf (hs : e = .list ds ∨ e = .tuple ds) : RdC K (fun xs H Q => ∃ p ys, xs = [.ref p] ∧ (SqL K H p ys ∨ SqT K H p ys) ∧ ∀ l, H l = none → Q (.ref l) (upd H l (.lst ys))) [e] (.list ds) := fun Z vs H o h Q q => by
  cases h with
  | @cons w _ _ _ h1 h2 =>
    cases h2
    have key : ∃ a xs, w = V.ref a ∧ (SqL K H a xs ∨ SqT K H a xs) ∧ DxAll K (hid Z H) xs ds := by
      rcases hs with rfl | rfl
      · obtain ⟨a, xs, e1, h, ha⟩ := h1.lst_inv; exact ⟨a, xs, e1, .inl (hid_sub.seq h), ha⟩
      · obtain ⟨a, xs, e1, h, ha⟩ := h1.tup_inv; exact ⟨a, xs, e1, .inr (same_t hid_sub h), ha⟩
    obtain ⟨a, xs, e1, h, ha⟩ := key
    rw [e1]
    exact ⟨a, xs, rfl, h, fun l hl => q _ _ (same_upd hl) (.lst ((hid_upd (o.new hl))) (DxAll.same (same_hid (same_upd hl)) _ _ ha))⟩

/-! ### isinstance -/
def tyD : PyData → String
  | .none => "NoneType"
  | .bool _ => "bool"
  | .int _ => "int"
  | .str _ => "str"
  | .list _ => "list"
  | .tuple _ => "tuple"
  | .dict _ => "dict"
theorem Dx.ty {H : Hp} {v : V} (h : Dx K H v d) : TyX K H v (.type (tyD d)) := by
  cases h with
  | non => exact .base .non
  | bl b => exact .base (.bl b)
  | int i => exact .base (.int i)
  | str x => exact .base (.str x)
  | lst hs _ => exact .base (.lst hs)
  | tup hs _ =>
    rcases hs with (h | ⟨o, h⟩) | ⟨o, its, n, hk, hc, _⟩
    · exact .base (.tup h)
    · exact .fTuple h
    · exact .kTuple hk hc
/-- data, or some dict with such keys -/
def Dq (K : PySem.W.Frag) (H : Hp) (v : V) (d : PyData) : Prop := Dx K H v d ∨ (d = .dict [] ∧ ∃ a kvs, v = .ref a ∧ H a = some (.dK kvs))
theorem Dq.ty {H : Hp} {v : V} (h : Dq K H v d) : TyX K H v (.type (tyD d)) := by
  rcases h with h | ⟨rfl, a, kvs, rfl, h⟩
  · exact h.ty
  · exact .base (.dK h)
theorem Dq.same {H H' : Hp} {v : V} (h : Dq K H v d) (s : Same H H') : Dq K H' v d := by
  rcases h with h | ⟨rfl, a, kvs, rfl, h⟩
  · exact .inl (Dx.same s _ _ h)
  · exact .inr ⟨rfl, a, kvs, rfl, s _ _ h⟩
/-- isinstance(x, T) -/
theorem ev_isi {T : String} {v : V} (hv : σ[i]? = some (some v)) (hd : Dq K G v d) (hk : kitB (tyD d) T = some b) : Ev K Z (tCB (rIsi K) (tCons (tVar i) (tCons (tC (.ty T)) tNil))) σ G (.bool b) := fun H1 s o Q q =>
  ⟨v, hv, v, .ty T, _, _, b, rfl, .ty T, (hd.same (s.trans hid_sub)).ty, kit_ty hk, q _ H1 (Same.refl _) (.bl b)⟩
theorem ev_isiE {T : String} (ha : Ev K Z ta σ G d) (hk : kitB (tyD d) T = some b) : Ev K Z (tCB (rIsi K) (tCons ta (tCons (tC (.ty T)) tNil))) σ G (.bool b) := fun H1 s o Q q =>
  ha H1 s o _ fun v H2 s2 dv => ⟨v, .ty T, _, _, b, rfl, .ty T, (Dx.same hid_sub _ _ dv).ty, kit_ty hk, q _ H2 s2 (.bl b)⟩
/-- isinstance(x, (T, U)) -/
theorem ev_isi2 {T U : String} {v : V} (hv : σ[i]? = some (some v)) (hd : Dq K G v d) (hk : kitB (tyD d) T = some b1) (hk2 : kitB (tyD d) U = some b2) :
    Ev K Z (tCB (rIsiT K) (tCons (tVar i) (tCons (tTup (tCons (tC (.ty T)) (tCons (tC (.ty U)) tNil))) tNil))) σ G (.bool (b1 || b2)) := fun H1 s o Q q =>
  ⟨v, hv, by show 2 ≤ sizeLine; rw [sizeLine_eq]; decide, fun p hp => ⟨v, p, [.ty T, .ty U], _, [.type T, .type U], b1 || b2, rfl, upd_same, .cons (.ty T) (.cons (.ty U) .nil), (hd.same ((s.trans hid_sub).upd hp)).ty,
    kitAny_cons (kit_ty hk) (fun e => by rw [e]; exact kitAny_cons (kit_ty hk2) (fun e2 => by rw [e2]; exact kitAny_nil) fun e2 => by rw [e2]; rfl) (fun e => by rw [e]; rfl), q _ _ (same_upd hp) (.bl _)⟩⟩
end
end L2
/-! LQ3: walks of tuples with their numbers, of a text beside a tuple. -/
namespace PySem
section
/-- enumerate(v), v anything that is walked -/
theorem lq_meets_enum {v : Value} {o : Obj} {H : Heap → Prop} (B : Begins v o H) :
    Meets (Builtin.«enumerate.__new__» ⟨[.type "enumerate", v], []⟩) (fun _ R s => H s.heap ∧
      R (.ok (.ret (.ref (s.heap.push o).objs.size))) { s with heap := (s.heap.push o).push { cls := .type "enumerate", data := .fields #[.none, .bool false, .ref s.heap.objs.size, rawInt 0, .none, .none] } }) :=
  .of_wp fun prog w A R s h => by
    obtain ⟨hp, g, d, tk, os⟩ := s
    obtain ⟨h1, h⟩ := h
    have hsub := sub_enumerate
    have q1 : ∀ {A' : Around} {E : Value → Shared → Prop} {Q : Value → Shared → Prop}, Q (.ref hp.objs.size) ⟨hp.push o, g, d, tk, os⟩ → wpAny (model prog w) A' (pyIter v) Q E ⟨hp, g, d, tk, os⟩ :=
      fun q => B.iter prog w _ _ ⟨hp, g, d, tk, os⟩ _ h1 q
    wp_walk using q1
    refine wpAny_stack_any fun st => wpAny_pure ?_
    split
    · rename_i c _ _ _ _ _
      cases (c == Value.type "enumerate") <;> (wp_walk using q1; exact ⟨_, rfl, h⟩)
    · wp_walk using q1
      exact ⟨_, rfl, h⟩
theorem lq_call_enum {prog : Program} {w : World} {A : Around} {E : Value → Shared → Prop} {s : Shared} {v : Value} {o : Obj} {H : Heap → Prop} {Q : Value → Shared → Prop} (B : Begins v o H) (h1 : H s.heap)
    (h : ∀ h', IsEnum h' (s.heap.objs.size + 1) s.heap.objs.size 0 .none → h'.get? s.heap.objs.size = some o → (∀ b o, s.heap.get? b = some o → h'.get? b = some o) → Q (.ref (s.heap.objs.size + 1)) { s with heap := h' }) :
    wpAny (model prog w) A (call (.type "enumerate") [v]) Q E s := by
  refine callType_new F.called_enumerate (by decide) (F.typeCall_enumerate_1 _) (F.newCall_enumerate_1 _) (fun obj => F.args_object_init_2 obj _) F.entry_enumerate_new (lq_meets_enum B) ⟨h1, ?_⟩
  have z : (s.heap.push o).objs.size = s.heap.objs.size + 1 := by rw [Heap.size_push]
  have he : ((s.heap.push o).push { cls := .type "enumerate", data := .fields #[.none, .bool false, .ref s.heap.objs.size, rawInt 0, .none, .none] }).get? (s.heap.objs.size + 1) =
      some { cls := .type "enumerate", data := .fields #[.none, .bool false, .ref s.heap.objs.size, rawInt 0, .none, .none] } := by
    rw [← z]
    exact Heap.get?_push_size _ rfl
  show _ ∧ _
  rw [z]
  exact ⟨⟨_, he, rfl⟩, h _ he (Heap.get?_push_of_some _ (Heap.get?_push_size _ B.free)) fun b u x => Heap.get?_push_of_some _ (Heap.get?_push_of_some _ x)⟩
end
end PySem
namespace L2
open PySem PySem.Spec PyProof.Rows
theorem PI.or {X : Cx} {tg l : Expr} {w1 w2 : TI} (h1 : PI X tg l w1) (h2 : PI X tg l w2) : PI X tg l (fun σ H R => w1 σ H R ∨ w2 σ H R) :=
  ⟨fun pins s σ H R I h => h.elim (fun q => h1.run pins s σ H R I q) fun q => h2.run pins s σ H R I q⟩
theorem PE.or {X : Cx} {e : Expr} {t1 t2 : TE} (h1 : PE X e t1) (h2 : PE X e t2) : PE X e (fun σ H Q => t1 σ H Q ∨ t2 σ H Q) :=
  ⟨fun pins s σ H Q I h => h.elim (fun q => h1.run pins s σ H Q I q) fun q => h2.run pins s σ H Q I q⟩
theorem PT.or {X : Cx} {e : Expr} {t1 t2 : TT} (h1 : PT X e t1) (h2 : PT X e t2) : PT X e (fun σ H Q => t1 σ H Q ∨ t2 σ H Q) :=
  ⟨fun pins s σ H Q I h => h.elim (fun q => h1.run pins s σ H Q I q) fun q => h2.run pins s σ H Q I q⟩

section
variable {X : Cx} {pins : List (Addr × Obj)} {σ : St} {H : Hp} {s : Shared} {E : Value → Shared → Prop}
/-- one turn of a walk that gives out new tuples -/
theorem turn_new {I : Addr} {fp wr : List Addr} {n : Nat} {Pt : Nat → Array Value → Prop} {St' : Nat → Heap → Prop} {Mid : Nat → Addr → Heap → Prop} {elts : List Expr} {kk : Nat} {tpos : Pos} {i : Nat} {Y : List V → Prop}
    (W : WalksT X.prog X.w X.A I fp wr n Pt St' Mid) (J : Inv X pins σ H s) (hi : i < n) (st : St' i s.heap) (hwr : ∀ b ∈ wr, FpOk X pins H b) (hv : ∀ vals, Pt i vals → ∃ vs, Vals vs vals.toList ∧ vs.length ≤ sizeLine ∧ Y vs) :
    wpAny (model X.prog X.w) X.A (pyNext (.ref I)) (fun r s1 => ∃ u, r = some u ∧ wpAny (model X.prog X.w) X.A (letOwnedTupleGo (.Tuple elts kk tpos) (.ref I) u) (fun _ s2 =>
      ∃ T vs, u = .ref T ∧ H T = none ∧ Inv X pins σ (upd H T (.tup vs)) s2 ∧ Y vs ∧ St' (i + 1) s2.heap ∧ (∀ b ∈ wr, b ≠ T) ∧ s.heap.objs.size ≤ T) E s1) E s := by
  refine W.item i s _ _ hi st fun T vals h' tk hP hT hTup hM hk => ⟨_, rfl, W.go elts kk tpos i T _ _ _ hM fun h'' hst hk2 => ?_⟩
  obtain ⟨vs, rv, hz, hy⟩ := hv vals hP
  have nT : T ∉ wr := W.apart i T _ hM
  have keep : ∀ b o, b ∉ wr → s.heap.get? b = some o → h''.get? b = some o := fun b o hb e => hk2 b o hb (hk b o hb e)
  have tup2 : h''.IsTuple T vals := hTup.at fun o e => hk2 T o nT e
  have new : ObjOk X.prog X.w (upd H T (.tup vs)) h'' T (.tup vs) := ⟨hz, vals.toList, rv, (show h''.IsTuple T vals.toList.toArray by rw [Array.toArray_toList]; exact tup2)⟩
  refine ⟨T, vs, rfl, J.hok.fresh hT, J.turnedNew (ch := wr) keep hwr hT new, hy, hst, fun b hb e => nT (e ▸ hb), hT⟩
end

/-! ### enumerate of a tuple -/
def IteT (K : PySem.W.Frag) (a : Addr) : It :=
  ⟨fun i H => ∃ (xs : List V) (x : V), SqT K H a xs ∧ xs[i]? = some x, fun i H v H' => ∃ T x, v = .ref T ∧ H T = none ∧ H' = upd H T (.tup [.int (i : Nat), x]) ∧ ∀ xs, SqT K H a xs → xs[i]? = some x, fun i H => ∃ xs : List V, SqT K H a xs ∧ xs.length = i⟩
theorem turn_enumT {P : Program} {w : World} {K : PySem.W.Frag} {elts : List Expr} {kk : Nat} {tpos : Pos} {a e it : Addr} (hne : a ≠ it) (hei : e ≠ it) (hea : e ≠ a) :
    Turn P w K (.Tuple elts kk tpos) (IteT K a) [e, it] e (fun i h => (∃ old, IsEnum h e it ((i : Nat) : Int) old) ∧ h.IsTupleIter it a i) where
  mem := by simp
  obj := fun i h st b hb => by
    obtain ⟨⟨old, he⟩, ⟨o, ho, _, hd⟩⟩ := st
    have e' : b = e ∨ b = it := by simpa using hb
    rcases e' with z | z
    · rw [z]; exact ⟨_, he, fun v q => nomatch q⟩
    · rw [z]; exact ⟨o, ho, fun v q => by rw [hd] at q; cases q⟩
  keep := fun i h h' st k => let ⟨⟨old, he⟩, hi⟩ := st; ⟨⟨old, k e (by simp) _ he⟩, hi.at fun o q => k it (by simp) o q⟩
  item := by
    intro X hP hw hK hc i pins s σ H E I hf st hg
    subst hP hw hK
    obtain ⟨xs, x, hq, hx⟩ := hg
    obtain ⟨its, rv, p, hz⟩ := I.tuple hq
    obtain ⟨u, hu, ru⟩ := rv.get hx
    have hp : s.heap.IsTuple a its.toArray := p
    have D := Draws.tuple (prog := X.prog) (w := X.w) (A := X.A.in1) (I.ok.hd hc) it a hne its.toArray
    have W := WalksT.enumFrom 0 D e hei (by simp [hei, hea]) (by simp)
    have hi : i < its.toArray.size := by
      obtain ⟨h1, _⟩ := List.getElem?_eq_some_iff.mp hu
      simpa using h1
    have st0 : (∃ old, IsEnum s.heap e it (0 + ((i : Nat) : Int)) old) ∧ (s.heap.IsTupleIter it a i ∧ s.heap.IsTuple a its.toArray) := by
      rw [Int.zero_add]; exact ⟨st.1, st.2, hp⟩
    refine thn (turn_new (elts := elts) (kk := kk) (tpos := tpos) (Y := fun vs => vs = [.int (i : Nat), x]) W I hi st0 hf fun vals hv => ?_) fun r s1 ⟨u1, hr, q⟩ => ⟨u1, hr, thn q fun _ s2 ⟨T, vs, e1, hT, I2, hy, hs, hn, _⟩ => ?_⟩
    · obtain ⟨t, y, hy, rfl⟩ := hv
      have ey : y = u := by
        have h1 : its[i]? = some y := by simpa using hy
        rw [hu] at h1; exact (Option.some.inj h1).symm
      subst ey
      have r0 : RelV (.int ((i : Nat) : Int)) (.int (0 + ((i : Nat) : Int)) t) := ⟨t, by rw [Int.zero_add]⟩
      exact ⟨_, .cons r0 (.cons ru .nil), (show 2 ≤ sizeLine by rw [sizeLine_eq]; decide), rfl⟩
    · subst e1 hy
      rw [Int.zero_add] at hs
      exact ⟨.ref T, _, I2, rfl, ⟨T, x, rfl, hT, rfl, fun ys hy => by rw [I.tuple_inj hy hq]; exact hx⟩, ⟨hs.1, hs.2.1⟩, fun b hb => by rw [upd_ne (hn b hb)]; exact (hf b hb).1⟩
  done := by
    intro X hP hw hK hc i pins s σ H E I hf st hg
    subst hP hw hK
    obtain ⟨xs, hq, hx⟩ := hg
    obtain ⟨its, rv, p, hz⟩ := I.tuple hq
    have hp : s.heap.IsTuple a its.toArray := p
    have hl := rv.length
    have D := Draws.tuple (prog := X.prog) (w := X.w) (A := X.A.in1) (I.ok.hd hc) it a hne its.toArray
    obtain ⟨⟨old, he⟩, hit⟩ := st
    have e : i = its.toArray.size := by simp; omega
    subst e
    obtain ⟨f0, f1, f2, f3, f4, f5⟩ := hf it (by simp)
    exact wpAny_pyNext_enum_endD D he ⟨hit, hp⟩ fun h' eb => ⟨rfl, I.turned (t' := s.toks) (fun b o hb q => eb b o hb q) f0 f1 f3 f4 f5⟩
  self := fun A i s Q E st h => let ⟨⟨_, he⟩, _⟩ := st; wpAny_pyIter_enum he h

def iEnumT (K : PySem.W.Frag) (ta : TA) : TI := fun σ H R => ta σ H fun vs H1 => ∃ a xs, vs = [.ref a] ∧ SqT K H1 a xs ∧ R (IteT K a) H1
theorem pi_enumT {X : Cx} {e : Expr} {ta : TA} {p pos tpos : Pos} {elts : List Expr} {kk : Nat} (hg : Gl X "enumerate") (hm : X.mg "enumerate" = none) (ha : PA X [e] ta) (hs : starEach [e] X.env = [(false, eval e X.env)] := by rfl) :
    PI X (.Tuple elts kk tpos) (.Call (.Name "enumerate" p) [e] [] pos) (iEnumT X.K ta) := by
  refine ⟨fun pins s σ H R I h => ?_⟩
  refine Call_ (ld_blt I hg hm boot_enumerate (PyProof.Rows.callWith_type1 (thn (ha.run pos pins s σ H _ I h) fun us s1 ⟨vs, H1, I1, r1, q1⟩ => ?_) hs rfl))
  obtain ⟨a, xs, ex, hq, q⟩ := q1
  subst ex
  obtain ⟨u, rfl, ru⟩ := vals1 r1
  cases ru
  obtain ⟨its, rv, p', hz⟩ := I1.tuple hq
  have hp : s1.heap.IsTuple a its.toArray := p'
  have ha' : a < s1.heap.objs.size := p'.lt
  refine lq_call_enum (begins_tuple a its.toArray) hp fun h' he hit hk => wpAny_pyIter_enum he ?_
  have I2 : Inv X pins σ H1 { s1 with heap := h' } := I1.kept (t' := s1.toks) hk
  refine ⟨s1.heap.objs.size + 1, [s1.heap.objs.size + 1, s1.heap.objs.size], _, _, H1, rfl, I2, turn_enumT (Nat.ne_of_lt ha') (Nat.succ_ne_self _) (Nat.ne_of_gt (Nat.lt_succ_of_lt ha')), ⟨⟨.none, he⟩, _, hit, rfl, rfl⟩, fun b hb => ?_, q⟩
  have hle : s1.heap.objs.size ≤ b := by
    have e' : b = s1.heap.objs.size + 1 ∨ b = s1.heap.objs.size := by simpa using hb
    rcases e' with z | z
    · rw [z]; exact Nat.le_add_right _ _
    · rw [z]; exact Nat.le_refl _
  exact I1.fpOk hle (I1.hok.fresh hle)
end L2
/-! LQ4: a text and a tuple walked side by side. -/
namespace L2
open PySem PySem.Spec PyProof.Rows
def ItzST (K : PySem.W.Frag) (x : Str) (b : Addr) : It :=
  ⟨fun i H => ∃ (ys : List V) (y : V) (c : Nat), SqT K H b ys ∧ x.cps[i]? = some c ∧ ys[i]? = some y,
    fun i H v H' => ∃ T c y, v = .ref T ∧ H T = none ∧ H' = upd H T (.tup [.str ⟨#[c]⟩, y]) ∧ x.cps[i]? = some c ∧ ∀ ys, SqT K H b ys → ys[i]? = some y,
    fun i H => ∃ ys : List V, SqT K H b ys ∧ i = min x.cps.size ys.length⟩
theorem turn_zipST {P : Program} {w : World} {K : PySem.W.Frag} {elts : List Expr} {kk : Nat} {tpos : Pos} {x : Str} {t : Tok} {b z TI TO i1 i2 : Addr} (S : ZipSep2 z TI TO i1 i2 [i1] [i2, b]) (hb : b ≠ i2) (hall : ∀ c ∈ [z, TI, TO, i1, i2], c ≠ b) :
    Turn P w K (.Tuple elts kk tpos) (ItzST K x b) [z, TI, TO, i1, i2] z (fun i h => IsZip h z TI TO .none ∧ IsTupOf2 h TI (.ref i1) (.ref i2) ∧ (∃ a1 a2, IsTupOf2 h TO a1 a2) ∧ h.IsStrIter i1 (strIterType x) x t i ∧ h.IsTupleIter i2 b i) where
  mem := by simp
  obj := fun i h st c hc => by
    obtain ⟨hz, hTI, ⟨a1, a2, hTO⟩, h1, h2⟩ := st
    have e' : c = z ∨ c = TI ∨ c = TO ∨ c = i1 ∨ c = i2 := by simpa using hc
    rcases e' with q | q | q | q | q
    · rw [q]; exact ⟨_, hz, fun v q => nomatch q⟩
    · rw [q]
      first
        | exact ⟨_, hTI, fun v q => nomatch q⟩
        | (obtain ⟨o, ho, hd⟩ := hTI; exact ⟨o, ho, fun v q => by simp_all⟩)
    · rw [q]
      first
        | exact ⟨_, hTO, fun v q => nomatch q⟩
        | (obtain ⟨o, ho, hd⟩ := hTO; exact ⟨o, ho, fun v q => by simp_all⟩)
    · rw [q]; obtain ⟨o, ho, hd⟩ := h1; exact ⟨o, ho, fun v q => by simp_all⟩
    · rw [q]; obtain ⟨o, ho, _, hd⟩ := h2; exact ⟨o, ho, fun v q => by rw [hd] at q; cases q⟩
  keep := fun i h h' st k => by
    obtain ⟨hz, hTI, ⟨a1, a2, hTO⟩, h1, h2⟩ := st
    exact ⟨k z (by simp) _ hz, k TI (by simp) _ hTI, ⟨a1, a2, k TO (by simp) _ hTO⟩, (let ⟨o, ho, r⟩ := h1; ⟨o, k i1 (by simp) o ho, r⟩), h2.at fun o e => k i2 (by simp) o e⟩
  item := by
    intro X hP hw hK hc i pins s σ H E I hf st hg
    subst hP hw hK
    obtain ⟨ys, y, c, hq, hx, hy⟩ := hg
    obtain ⟨its, rv, p, hz⟩ := I.tuple hq
    obtain ⟨u, hu, ru⟩ := rv.get hy
    have hp : s.heap.IsTuple b its.toArray := p
    have D1 := Draws.text (prog := X.prog) (w := X.w) (A := X.A.in1) (I.ok.hd hc) i1 x t
    have D2 := Draws.tuple (prog := X.prog) (w := X.w) (A := X.A.in1) (I.ok.hd hc) i2 b hb its.toArray
    have W := WalksT.zipD2 S D1 D2
    have hi : i < min x.cps.size its.toArray.size := by
      obtain ⟨h1, _⟩ := List.getElem?_eq_some_iff.mp hu
      obtain ⟨h2, _⟩ := Array.getElem?_eq_some_iff.mp hx
      simp only [List.size_toArray]
      omega
    obtain ⟨s1, s2, s3, s4, s5⟩ := st
    have hTI0 := s2
    have hf' : ∀ b ∈ [z, TO, i1, i2], FpOk X pins H b := fun b hb => hf b (by
      have e' : b = z ∨ b = TO ∨ b = i1 ∨ b = i2 := by simpa using hb
      rcases e' with q | q | q | q <;> simp [q])
    refine thn (turn_new (elts := elts) (kk := kk) (tpos := tpos) (Y := fun vs => vs = [.str ⟨#[c]⟩, y]) W I hi ⟨s1, s2, s3, s4, s5, hp⟩ hf' fun vals hv => ?_) fun r s1 ⟨u1, hr, q⟩ => ⟨u1, hr, thn q fun _ s2 ⟨T, vs, e1, hT, I2, hy2, hs, hn, hle⟩ => ?_⟩
    · obtain ⟨x1, x2, ⟨c', t', hc', rfl⟩, h2, rfl⟩ := hv
      have ec : c' = c := by rw [hx] at hc'; exact (Option.some.inj hc').symm
      have ey : x2 = u := by
        have h1 : its[i]? = some x2 := by simpa using h2
        rw [hu] at h1; exact (Option.some.inj h1).symm
      subst ec ey
      have r0 : RelV (.str ⟨#[c']⟩) (.str ⟨#[c']⟩ t') := ⟨t', rfl⟩
      exact ⟨_, .cons r0 (.cons ru .nil), (show 2 ≤ sizeLine by rw [sizeLine_eq]; decide), rfl⟩
    · subst e1 hy2
      obtain ⟨g1, g2, g3, g4, g5, _⟩ := hs
      refine ⟨.ref T, _, I2, rfl, ⟨T, c, y, rfl, hT, rfl, hx, fun ws hw => by rw [I.tuple_inj hw hq]; exact hy⟩, ⟨g1, g2, g3, g4, g5⟩, fun b hb => ?_⟩
      by_cases hbT : b = TI
      · -- the pair of iterators stays as it was: it is not T, as T is new
        have hlt : b < s.heap.objs.size := by
          rw [hbT]
          exact Heap.lt_size hTI0
        have hne : b ≠ T := Nat.ne_of_lt (Nat.lt_of_lt_of_le hlt hle)
        rw [upd_ne hne]
        exact (hf b hb).1
      · have hb' : b ∈ [z, TO, i1, i2] := by
          have e' : b = z ∨ b = TI ∨ b = TO ∨ b = i1 ∨ b = i2 := by simpa using hb
          rcases e' with q | q | q | q | q
          · simp [q]
          · exact absurd q hbT
          · simp [q]
          · simp [q]
          · simp [q]
        rw [upd_ne (hn b hb')]
        exact (hf b hb).1
  done := by
    intro X hP hw hK hc i pins s σ H E I hf st hg
    subst hP hw hK
    obtain ⟨ys, hq, hx⟩ := hg
    obtain ⟨its, rv, p, hz⟩ := I.tuple hq
    have hp : s.heap.IsTuple b its.toArray := p
    have hl := rv.length
    have D1 := Draws.text (prog := X.prog) (w := X.w) (A := X.A.in1) (I.ok.hd hc) i1 x t
    have D2 := Draws.tuple (prog := X.prog) (w := X.w) (A := X.A.in1) (I.ok.hd hc) i2 b hb its.toArray
    have W := WalksT.zipD2 S D1 D2
    have e : i = min x.cps.size its.toArray.size := by rw [hx, hl]; simp
    subst e
    obtain ⟨s1, s2, s3, s4, s5⟩ := st
    exact W.done s _ _ ⟨s1, s2, s3, s4, s5, hp⟩ fun h' tk hk => ⟨rfl, I.turnedL (t' := tk) (ch := [z, TI, TO, i1, i2]) (fun c o hb q => hk c o (fun q' => hb (by
      have e' : c = z ∨ c = TO ∨ c = i1 ∨ c = i2 := by simpa using q'
      rcases e' with q | q | q | q <;> simp [q])) q) hf⟩
  self := fun A i s Q E st h => wpAny_pyIter_zip st.1 h
theorem zip_sep (n b : Nat) (h : b < n) : ZipSep2 (n + 4) (n + 2) (n + 3) n (n + 1) [n] [n + 1, b] where
  TIz := (by omega : (n + 2 : Nat) ≠ n + 4)
  TOz := (by omega : (n + 3 : Nat) ≠ n + 4)
  TITO := (by omega : (n + 2 : Nat) ≠ n + 3)
  TIi1 := (by omega : (n + 2 : Nat) ≠ n)
  mem1 := List.mem_singleton.mpr rfl
  zf1 := fun h => (by omega : (n + 4 : Nat) ≠ n) (List.mem_singleton.mp h)
  Tf1 := fun h => (by omega : (n + 3 : Nat) ≠ n) (List.mem_singleton.mp h)
  TIi2 := (by omega : (n + 2 : Nat) ≠ n + 1)
  mem2 := List.mem_cons_self
  zf2 := fun q => (List.mem_cons.mp q).elim (by omega : (n + 4 : Nat) ≠ n + 1) fun q => (by omega : (n + 4 : Nat) ≠ b) (List.mem_singleton.mp q)
  Tf2 := fun q => (List.mem_cons.mp q).elim (by omega : (n + 3 : Nat) ≠ n + 1) fun q => (by omega : (n + 3 : Nat) ≠ b) (List.mem_singleton.mp q)
  sep1_2 := fun q => (List.mem_cons.mp q).elim (by omega : (n : Nat) ≠ n + 1) fun q => (by omega : (n : Nat) ≠ b) (List.mem_singleton.mp q)
  sep2_1 := fun q => (by omega : (n + 1 : Nat) ≠ n) (List.mem_singleton.mp q)
def iZipST (K : PySem.W.Frag) (ta : TA) : TI := fun σ H R => ta σ H fun vs H1 => ∃ x b ys, vs = [.str x, .ref b] ∧ SqT K H1 b ys ∧ R (ItzST K x b) H1
theorem pi_zipST {X : Cx} {e e2 : Expr} {ta : TA} {p pos tpos : Pos} {elts : List Expr} {kk : Nat} (hg : Gl X "zip") (hm : X.mg "zip" = none) (ha : PA X [e, e2] ta)
    (hs : starEach [e, e2] X.env = (false, eval e X.env) :: starEach [e2] X.env := by rfl) (hpl : (backTo pos (starEach [e2] X.env)).any (·.1) = false := by rfl) :
    PI X (.Tuple elts kk tpos) (.Call (.Name "zip" p) [e, e2] [] pos) (iZipST X.K ta) := by
  refine ⟨fun pins s σ H R I h => ?_⟩
  refine Call_ (ld_blt I hg hm PyProof.Rows.boot_zip (PyProof.Rows.callWith_type1 (thn (ha.run pos pins s σ H _ I h) fun us s1 ⟨vs, H1, I1, r1, q1⟩ => ?_) hs hpl))
  obtain ⟨x, b, ys, ex, hq, q⟩ := q1
  subst ex
  obtain ⟨u1, u2, rfl, ru1, ru2⟩ := vals2 r1
  obtain ⟨t, rfl⟩ := ru1
  cases ru2
  obtain ⟨its, rv, p', hz⟩ := I1.tuple hq
  have hp : s1.heap.IsTuple b its.toArray := p'
  have hb : b < s1.heap.objs.size := p'.lt
  refine zip_begins2 (begins_text x t) (begins_tuple b its.toArray) trivial hp fun h' hz hTI hTO h1 h2 hsz hk => wpAny_pyIter_zip hz ?_
  have I2 : Inv X pins σ H1 { s1 with heap := h' } := I1.kept (t' := s1.toks) hk
  have S : ZipSep2 (s1.heap.objs.size + 4) (s1.heap.objs.size + 2) (s1.heap.objs.size + 3) s1.heap.objs.size (s1.heap.objs.size + 1) [s1.heap.objs.size] [s1.heap.objs.size + 1, b] := by
    exact zip_sep _ _ hb
  have n1 : b ≠ s1.heap.objs.size + 1 := Nat.ne_of_lt (Nat.lt_succ_of_lt hb)
  have hle : ∀ c ∈ [s1.heap.objs.size + 4, s1.heap.objs.size + 2, s1.heap.objs.size + 3, s1.heap.objs.size, s1.heap.objs.size + 1], s1.heap.objs.size ≤ c := fun c hc => by
    have e' : c = s1.heap.objs.size + 4 ∨ c = s1.heap.objs.size + 2 ∨ c = s1.heap.objs.size + 3 ∨ c = s1.heap.objs.size ∨ c = s1.heap.objs.size + 1 := by simpa using hc
    rcases e' with z | z | z | z | z
    · rw [z]; exact Nat.le_add_right _ _
    · rw [z]; exact Nat.le_add_right _ _
    · rw [z]; exact Nat.le_add_right _ _
    · rw [z]; exact Nat.le_refl _
    · rw [z]; exact Nat.le_add_right _ _
  exact ⟨s1.heap.objs.size + 4, [s1.heap.objs.size + 4, s1.heap.objs.size + 2, s1.heap.objs.size + 3, s1.heap.objs.size, s1.heap.objs.size + 1], _, _, H1, rfl, I2,
    turn_zipST (t := t) S n1 (fun c hc => Nat.ne_of_gt (Nat.lt_of_lt_of_le hb (hle c hc))), ⟨hz, hTI, ⟨_, _, hTO⟩, ⟨_, h1, rfl, rfl⟩, ⟨_, h2, rfl, rfl⟩⟩, fun c hc => I1.fpOk (hle c hc) (I1.hok.fresh (hle c hc)), q⟩
end L2
/-! LQ5: what is walked, targets, list comprehensions over data. -/
namespace L2
open PySem PySem.Spec PyProof.Rows
section
variable {K : PySem.W.Frag} {a b : Addr} {xs ys : List V}
theorem walk_enumT : Walk (IteT K a) xs.length (fun H => SqT K H a xs) (YPair (fun i => some (.int (i : Nat))) (fun i => xs[i]?)) := by
  refine ⟨fun i _ hi q => ⟨xs, xs[i], q, by simp [hi]⟩, fun _ q => ⟨xs, q, rfl⟩, fun i H v H' _ q y => ?_⟩
  obtain ⟨T, x, h1, h2, h3, h4⟩ := y
  exact ⟨T, .int (i : Nat), x, h1, h2, h3, rfl, h4 xs q⟩
theorem walk_zipST {x : Str} : Walk (ItzST K x b) (min x.cps.size ys.length) (fun H => SqT K H b ys) (YPair (fun i => x.cps[i]?.map fun c => V.str ⟨#[c]⟩) (fun i => ys[i]?)) := by
  refine ⟨fun i _ hi q => ?_, fun _ q => ⟨ys, q, rfl⟩, fun i H v H' _ q y => ?_⟩
  · have h1 : i < x.cps.size := by omega
    have h2 : i < ys.length := by omega
    exact ⟨ys, ys[i], x.cps[i], q, by simp [h1], by simp [h2]⟩
  · obtain ⟨T, c, z, h1, h2, h3, h4, h5⟩ := y
    exact ⟨T, .str ⟨#[c]⟩, z, h1, h2, h3, by show x.cps[i]?.map _ = _; rw [h4]; rfl, h5 ys q⟩
end
section
variable (K : PySem.W.Frag) (Z : List Addr)
/-- what is walked: items, one after another -/
def EvI (wi : TI) (σ : St) (G : Hp) (items : List PyData) : Prop := ∀ H1, Same G (hid Z H1) → Occ Z H1 → ∀ R : It → Hp → Prop,
  (∀ (J : It) (H2 : Hp) (Gd : Hp → Prop) (Y : Nat → Hp → V → Hp → Prop), Same H1 H2 → Walk J items.length Gd Y → (∀ H3, Same H2 H3 → Gd H3) →
    (∀ i H3 x H4, i < items.length → Same H2 H3 → Y i H3 x H4 → Same H3 H4 ∧ ∃ d, items[i]? = some d ∧ ∀ Z', Same (hid Z H2) (hid Z' H3) → Occ Z' H3 → Dx K (hid Z' H4) x d) → R J H2) → wi σ H1 R
/-- a target: C of the slots and what is visible behind it -/
def EvG (g : TG) (d : PyData) (σ : St) (G : Hp) (C : St → Hp → Prop) : Prop := ∀ x H1, Same G (hid Z H1) → Occ Z H1 → Dx K (hid Z H1) x d → ∀ Q : St → Hp → Prop, (∀ σ' H2, Same H1 H2 → C σ' (hid Z H2) → Q σ' H2) → g x σ H1 Q
end
section
variable {K : PySem.W.Frag} {Z : List Addr} {σ : St} {G G' : Hp} {d d1 d2 d3 : PyData} {ds items : List PyData} {te ta tb : TE} {tas : TA} {i j k : Nat} {C : St → Hp → Prop}
theorem eg_name (h : ∀ v G', Same G G' → Dx K G' v d → C (σ.set i (some v)) G') : EvG K Z (gName i) d σ G C := fun x H1 s o dx Q q => q _ H1 (Same.refl _) (h x _ s dx)
theorem eg_two (h : ∀ v1 v2 G', Same G G' → Dx K G' v1 d1 → Dx K G' v2 d2 → C ((σ.set i (some v1)).set j (some v2)) G') :
    EvG K Z (gTup K 2 (gCons (gName i) (gCons (gName j) gNil))) (.tuple [d1, d2]) σ G C := fun x H1 s o dx Q q => by
  obtain ⟨a, xs, e1, hs, ha⟩ := dx.tup_inv
  cases ha with
  | cons h1 t1 =>
    cases t1 with
    | cons h2 t2 =>
      cases t2
      exact ⟨a, _, e1, same_t hid_sub hs, rfl, _, _, rfl, _, _, rfl, rfl, q _ H1 (Same.refl _) (h _ _ _ s h1 h2)⟩
theorem eg_three (h : ∀ v1 v2 v3 G', Same G G' → Dx K G' v1 d1 → Dx K G' v2 d2 → Dx K G' v3 d3 → C (((σ.set i (some v1)).set j (some v2)).set k (some v3)) G') :
    EvG K Z (gTup K 3 (gCons (gName i) (gCons (gName j) (gCons (gName k) gNil)))) (.tuple [d1, d2, d3]) σ G C := fun x H1 s o dx Q q => by
  obtain ⟨a, xs, e1, hs, ha⟩ := dx.tup_inv
  cases ha with
  | cons h1 t1 =>
    cases t1 with
    | cons h2 t2 =>
      cases t2 with
      | cons h3 t3 =>
        cases t3
        exact ⟨a, _, e1, same_t hid_sub hs, rfl, _, _, rfl, _, _, rfl, _, _, rfl, rfl, q _ H1 (Same.refl _) (h _ _ _ _ s h1 h2 h3)⟩
/-! ### walked things -/
theorem evi_list (h : Ev K Z te σ G (.list ds)) : EvI K Z (iList K te) σ G ds := fun H1 s o R q => h H1 s o _ fun v H2 s2 dv => by
  obtain ⟨a, xs, e1, hs, ha⟩ := dv.lst_inv
  refine ⟨a, e1, ⟨xs, hid_sub.seq hs⟩, q _ H2 _ _ s2 (ha.length ▸ walk_list) (fun H3 s3 => s3.seq (hid_sub.seq hs)) fun i H3 x H4 hi s3 y => ?_⟩
  obtain ⟨rfl, hx⟩ := y
  obtain ⟨d, hd, dd⟩ := ha.getV hx
  exact ⟨Same.refl _, d, hd, fun Z' s4 _ => Dx.same s4 _ _ dd⟩
theorem evi_tup (h : Ev K Z te σ G (.tuple ds)) : EvI K Z (iTup K te) σ G ds := fun H1 s o R q => h H1 s o _ fun v H2 s2 dv => by
  obtain ⟨a, xs, e1, hs, ha⟩ := dv.tup_inv
  refine ⟨a, e1, ⟨xs, same_t hid_sub hs⟩, q _ H2 _ _ s2 (ha.length ▸ walk_tup) (fun H3 s3 => same_t s3 (same_t hid_sub hs)) fun i H3 x H4 hi s3 y => ?_⟩
  obtain ⟨rfl, hx⟩ := y
  obtain ⟨d, hd, dd⟩ := ha.getV hx
  exact ⟨Same.refl _, d, hd, fun Z' s4 _ => Dx.same s4 _ _ dd⟩
theorem evi_orL {w1 w2 : TI} (h : EvI K Z w1 σ G ds) : EvI K Z (fun σ H R => w1 σ H R ∨ w2 σ H R) σ G ds := fun H1 s o R q => .inl (h H1 s o R q)
theorem evi_orR {w1 w2 : TI} (h : EvI K Z w2 σ G ds) : EvI K Z (fun σ H R => w1 σ H R ∨ w2 σ H R) σ G ds := fun H1 s o R q => .inr (h H1 s o R q)
theorem ev_orL {t1 t2 : TE} (h : Ev K Z t1 σ G d) : Ev K Z (fun σ H Q => t1 σ H Q ∨ t2 σ H Q) σ G d := fun H1 s o Q q => .inl (h H1 s o Q q)
theorem ev_orR {t1 t2 : TE} (h : Ev K Z t2 σ G d) : Ev K Z (fun σ H Q => t1 σ H Q ∨ t2 σ H Q) σ G d := fun H1 s o Q q => .inr (h H1 s o Q q)
/-- the signs of a text -/
def signsD (x : Str) : List PyData := x.cps.toList.map fun c => .str ⟨#[c]⟩
theorem evi_str {x : Str} (h : Ev K Z te σ G (.str x)) : EvI K Z (iStr te) σ G (signsD x) := fun H1 s o R q => h H1 s o _ fun v H2 s2 dv => by
  have e : (signsD x).length = x.cps.size := by unfold signsD; rw [List.length_map, Array.length_toList]
  refine ⟨x, dv.str_inv, q _ H2 _ _ s2 (e ▸ walk_str) (fun _ _ => trivial) fun i H3 x1 H4 hi s3 y => ?_⟩
  obtain ⟨rfl, c, hc, rfl⟩ := y
  exact ⟨Same.refl _, .str ⟨#[c]⟩, by unfold signsD; rw [List.getElem?_map, Array.getElem?_toList, hc]; rfl, fun _ _ _ => .str _⟩
/-- pairs of numbers and items -/
def enumD (ds : List PyData) : List PyData := ds.zipIdx.map fun p => .tuple [.int (p.2 : Nat), p.1]
theorem enumD_length : (enumD ds).length = ds.length := by unfold enumD; rw [List.length_map, List.length_zipIdx]
theorem enumD_get {ds : List PyData} {i : Nat} {d : PyData} (h : ds[i]? = some d) : (enumD ds)[i]? = some (.tuple [.int (i : Nat), d]) := by
  unfold enumD
  rw [List.getElem?_map, List.getElem?_zipIdx, h]
  simp
theorem pair_dp {H : Hp} {T : Addr} {Z' : List Addr} {H3 : Hp} {v1 v2 : V} (hT : H3 T = none) (o : Occ Z' H3) (h1 : Dx K (hid Z' H3) v1 d1) (h2 : Dx K (hid Z' H3) v2 d2) : Dx K (hid Z' (upd H3 T (.tup [v1, v2]))) (.ref T) (.tuple [d1, d2]) :=
  .tup (.inl (.inl (hid_upd (o.new hT)))) (.cons (Dx.same (same_hid (same_upd hT)) _ _ h1) (.cons (Dx.same (same_hid (same_upd hT)) _ _ h2) .nil))
theorem evi_enumL (h : EvA K Z tas σ G [.list ds]) : EvI K Z (iEnum K tas) σ G (enumD ds) := fun H1 s o R q => h H1 s o _ fun vs H2 s2 dv => by
  cases dv with
  | cons dv t =>
    cases t
    obtain ⟨a, xs, e1, hs, ha⟩ := dv.lst_inv
    refine ⟨a, xs, by rw [e1], hid_sub.seq hs, q _ H2 _ _ s2 ((enumD_length (ds := ds)).trans ha.length.symm ▸ walk_enum) (fun H3 s3 => s3.seq (hid_sub.seq hs)) fun i H3 x H4 hi s3 y => ?_⟩
    obtain ⟨T, x1, y1, rfl, hT, rfl, hx, hy⟩ := y
    cases hx
    obtain ⟨d, hd, dd⟩ := ha.getV hy
    exact ⟨same_upd hT, _, enumD_get hd, fun Z' s4 o4 => pair_dp (H := H3) hT o4 (.int _) (Dx.same s4 _ _ dd)⟩
theorem evi_enumT (h : EvA K Z tas σ G [.tuple ds]) : EvI K Z (iEnumT K tas) σ G (enumD ds) := fun H1 s o R q => h H1 s o _ fun vs H2 s2 dv => by
  cases dv with
  | cons dv t =>
    cases t
    obtain ⟨a, xs, e1, hs, ha⟩ := dv.tup_inv
    refine ⟨a, xs, by rw [e1], same_t hid_sub hs, q _ H2 _ _ s2 ((enumD_length (ds := ds)).trans ha.length.symm ▸ walk_enumT) (fun H3 s3 => same_t s3 (same_t hid_sub hs)) fun i H3 x H4 hi s3 y => ?_⟩
    obtain ⟨T, x1, y1, rfl, hT, rfl, hx, hy⟩ := y
    cases hx
    obtain ⟨d, hd, dd⟩ := ha.getV hy
    exact ⟨same_upd hT, _, enumD_get hd, fun Z' s4 o4 => pair_dp (H := H3) hT o4 (.int _) (Dx.same s4 _ _ dd)⟩
/-- pairs of a text's signs and a tuple's items -/
def zipD (x : Str) (ds : List PyData) : List PyData := ((signsD x).zip ds).map fun p => .tuple [p.1, p.2]
theorem evi_zipST {x : Str} (h : EvA K Z tas σ G [.str x, .tuple ds]) : EvI K Z (iZipST K tas) σ G (zipD x ds) := fun H1 s o R q => h H1 s o _ fun vs H2 s2 dv => by
  cases dv with
  | cons dv t =>
    cases t with
    | cons dw t =>
      cases t
      obtain ⟨a, ys, e1, hs, ha⟩ := dw.tup_inv
      have e : (zipD x ds).length = min x.cps.size ys.length := by unfold zipD signsD; rw [List.length_map, List.length_zip, List.length_map, Array.length_toList, ha.length]
      refine ⟨x, a, ys, by rw [e1, dv.str_inv], same_t hid_sub hs, q _ H2 _ _ s2 (e ▸ walk_zipST) (fun H3 s3 => same_t s3 (same_t hid_sub hs)) fun i H3 x1 H4 hi s3 y => ?_⟩
      obtain ⟨T, x2, y1, rfl, hT, rfl, hx, hy⟩ := y
      have hx : x.cps[i]?.map (fun c => V.str ⟨#[c]⟩) = some x2 := hx
      cases hc : x.cps[i]? with
      | none => rw [hc] at hx; cases hx
      | some c =>
        rw [hc] at hx
        cases hx
        obtain ⟨d, hd, dd⟩ := ha.getV hy
        refine ⟨same_upd hT, .tuple [.str ⟨#[c]⟩, d], ?_, fun Z' s4 o4 => pair_dp (H := H3) hT o4 (.str _) (Dx.same s4 _ _ dd)⟩
        unfold zipD signsD
        have e3 : ((x.cps.toList.map fun c => PyData.str ⟨#[c]⟩).zip ds)[i]? = some (.str ⟨#[c]⟩, d) := List.getElem?_zip_eq_some.mpr ⟨by rw [List.getElem?_map, Array.getElem?_toList, hc]; rfl, hd⟩
        rw [List.getElem?_map, e3]
        rfl
def rngD (lo : Int) (n : Nat) : List PyData := (List.range n).map fun (i : Nat) => .int (lo + (i : Nat))
theorem rngD_length {lo : Int} {n : Nat} : (rngD lo n).length = n := by unfold rngD; rw [List.length_map, List.length_range]
theorem rngD_get {lo : Int} {n i : Nat} (h : i < n) : (rngD lo n)[i]? = some (.int (lo + (i : Nat))) := by
  unfold rngD
  rw [List.getElem?_map, List.getElem?_range h]
  rfl
theorem evi_rng1 {n : Int} (h : EvA K Z tas σ G [.int n]) (h1 : -(2 ^ 62) ≤ n) (h2 : n < 2 ^ 62) : EvI K Z (iRng1 tas) σ G (rngD 0 n.toNat) := fun H1 s o R q => h H1 s o _ fun vs H2 s2 dv => by
  cases dv with
  | cons dv t =>
    cases t
    refine ⟨n, by rw [dv.int_inv], h1, h2, q _ H2 _ _ s2 (by rw [rngD_length]; exact walk_range) (fun _ _ => trivial) fun i H3 x H4 hi s3 y => ?_⟩
    obtain ⟨rfl, rfl⟩ := y
    rw [rngD_length] at hi
    exact ⟨Same.refl _, _, rngD_get hi, fun _ _ _ => .int _⟩
theorem evi_rng2 {n m : Int} (h : EvA K Z tas σ G [.int n, .int m]) (hb : -(2 ^ 62) ≤ n ∧ n < 2 ^ 62 ∧ -(2 ^ 62) ≤ m ∧ m < 2 ^ 62) : EvI K Z (iRng2 tas) σ G (rngD n (m - n).toNat) := fun H1 s o R q => h H1 s o _ fun vs H2 s2 dv => by
  cases dv with
  | cons dv t =>
    cases t with
    | cons dw t =>
      cases t
      refine ⟨n, m, by rw [dv.int_inv, dw.int_inv], hb, q _ H2 _ _ s2 (by rw [rngD_length]; exact walk_range) (fun _ _ => trivial) fun i H3 x H4 hi s3 y => ?_⟩
      obtain ⟨rfl, rfl⟩ := y
      rw [rngD_length] at hi
      exact ⟨Same.refl _, _, rngD_get hi, fun _ _ _ => .int _⟩

/-! ### comprehensions -/
theorem take_snoc {α : Type} {l : List α} {i : Nat} {x : α} (h : l[i]? = some x) : l.take (i + 1) = l.take i ++ [x] := by
  obtain ⟨hi, e⟩ := List.getElem?_eq_some_iff.mp h
  rw [List.take_succ_eq_append_getElem hi, e]
/-- [e for target in items if test] -/
theorem ev_lcf {wi : TI} {g : TG} {tt : TT} {vs : List Nat} {f : PyData → PyData} {p : PyData → Bool} (hi : EvI K Z wi σ G items) (hn : items.length ≤ sizeLine)
    (hb : ∀ (Z' : List Addr) (i : Nat) (d : PyData) (G' : Hp), items[i]? = some d → Same G G' → EvG K Z' g d (wipe σ vs) G' fun σ2 G2 => wipe σ2 vs = wipe σ vs ∧ An Z' tt σ2 G2 (p d) ∧ (p d = true → Ev K Z' te σ2 G2 (f d))) :
    Ev K Z (tLc wi g tt te vs) σ G (.list ((items.filter p).map f)) := fun H1 s o Q q => hi H1 s o _ fun J H2 Gd Y s2 W hG hY D hD => by
  have o2 : Occ Z H2 := o.same s2
  have hDZ : D ∉ Z := o2.new hD
  refine lc_it W (fun i H => ∃ acc, H D = some (.lst acc) ∧ Same H2 H ∧ acc.length ≤ i ∧ DxAll K (hid (D :: Z) H) acc (((items.take i).filter p).map f)) ⟨[], upd_same, same_upd hD, Nat.le_refl _, .nil⟩
    (fun i H _ ⟨_, _, s3, _⟩ => hG H s3) ?_ ?_
  · rintro i x H H' hlt ⟨acc, hA, s3, hl, ha⟩ y
    obtain ⟨s4, d, hd, dx⟩ := hY i H x H' hlt s3 y
    have oD : ∀ {H' : Hp}, Same H H' → Occ (D :: Z) H' := fun {H'} s5 z hz => by
      rcases List.mem_cons.mp hz with e | e
      · rw [e, s5 _ _ hA]; simp
      · exact (o2.same (s3.trans s5)) z e
    have sD : ∀ {H' : Hp}, Same H H' → Same (hid Z H2) (hid (D :: Z) H') := fun {H'} s5 b u e => by
      obtain ⟨e1, e2⟩ := hid_some e
      have hb : b ∉ D :: Z := fun z => (List.mem_cons.mp z).elim (fun z => by rw [z, hD] at e2; cases e2) e1
      rw [hid_out hb]; exact s5 _ _ (s3 _ _ e2)
    have sG : Same G (hid (D :: Z) H') := (s.trans (same_hid s2)).trans (sD s4)
    refine hb (D :: Z) i d (hid (D :: Z) H') hd sG x H' (Same.refl _) (oD s4) (dx _ (sD (Same.refl _)) (oD (Same.refl _))) _ fun σ2 H5 s5 ⟨hw, hT, hE⟩ => ⟨hw, hT H5 (Same.refl _) (oD (s4.trans s5)) _ fun H6 s6 => ?_⟩
    have tk := take_snoc hd
    cases hp : p d with
    | false =>
      refine iteF ?_
      have s7 : Same H H6 := s4.trans (s5.trans s6)
      refine ⟨acc, s7 _ _ hA, s3.trans s7, by omega, ?_⟩
      rw [tk, List.filter_append, List.filter_cons, hp]
      simp only [Bool.false_eq_true, if_false, List.filter_nil, List.append_nil]
      exact DxAll.same (same_hid s7) _ _ ha
    | true =>
      refine iteT (hE hp H6 (same_hid s6) (oD (s4.trans (s5.trans s6))) _ fun v H7 s7 dv => ?_)
      have s8 : Same H H7 := s4.trans (s5.trans (s6.trans s7))
      refine ⟨acc, s8 _ _ hA, by omega, acc ++ [v], upd_same, fun b u e => ?_, by rw [List.length_append, List.length_singleton]; omega, ?_⟩
      · rw [upd_ne (ne_of_none e hD)]; exact s8 _ _ (s3 _ _ e)
      · rw [tk, List.filter_append, List.filter_cons, hp]
        simp only [if_true, List.filter_nil, List.map_append, List.map_cons, List.map_nil]
        have keep : Same (hid (D :: Z) H7) (hid (D :: Z) (upd H7 D (.lst (acc ++ [v])))) := same_but fun b u hb e => by
          rw [upd_ne fun z => hb (by rw [z]; exact List.mem_cons_self)]; exact e
        exact (DxAll.same (same_hid s8 |>.trans keep) _ _ ha).snoc (Dx.same keep _ _ dv)
  · rintro H ⟨acc, hA, s3, _, ha⟩
    rw [List.take_length] at ha
    refine q _ H (s2.trans s3) (.lst ((by rw [hid_out hDZ]; exact hA)) (DxAll.same (hid_less fun b hb => List.mem_cons_of_mem _ hb) _ _ ha))
/-- [e for target in items] -/
theorem ev_lc {wi : TI} {g : TG} {vs : List Nat} {f : PyData → PyData} (hi : EvI K Z wi σ G items) (hn : items.length ≤ sizeLine)
    (hb : ∀ (Z' : List Addr) (i : Nat) (d : PyData) (G' : Hp), items[i]? = some d → Same G G' → EvG K Z' g d (wipe σ vs) G' fun σ2 G2 => wipe σ2 vs = wipe σ vs ∧ Ev K Z' te σ2 G2 (f d)) :
    Ev K Z (tLc wi g tYes te vs) σ G (.list (items.map f)) := by
  have h := ev_lcf (p := fun _ => true) (f := f) (tt := tYes) hi hn (fun Z' i d G' hd s x H1 s1 o1 dx Q q => hb Z' i d G' hd s x H1 s1 o1 dx Q fun σ2 H2 s2 ⟨h1, h2⟩ => q σ2 H2 s2 ⟨h1, fun H1 _ _ Q q => q H1 (Same.refl _), fun _ => h2⟩)
  rwa [List.filter_eq_self.mpr (fun _ _ => rfl)] at h
end
end L2
/-! LQ6: defs of the text by name; built-in types; tables; further rules. -/
namespace L2
open PySem PySem.Spec PyProof.Rows

/-- the def of the text that the module's name x stands for -/
structure At (K : PySem.W.Frag) (mg : Str → Option Value) (x : Str) (st : Stmt) (ps : List Str) : Prop where
  ex : ∃ f fd, mg x = some (.ref f) ∧ Fun K x x st f fd ∧ Binds K fd ps []
/-- it keeps a promise -/
def Df (P : Program) (w : World) (K : PySem.W.Frag) (mg : Str → Option Value) (base : Heap) (x : Str) (k : Nat) (ps : List Str) (sp : Sp) : Prop :=
  ∃ f fd, mg x = some (.ref f) ∧ PySem.W.keepIn K (.ref f) = true ∧ Binds K fd ps [] ∧ FnOk P w K mg base CX0 k f fd ps sp
section
variable {P : Program} {w : World} {K : PySem.W.Frag} {mg : Str → Option Value} {base : Heap}
theorem df_pure {x : Str} {st : Stmt} {N ps : List Str} {k : Nat} {Pr : List PyData → Prop} {fn : List PyData → PyData} (A0 : At K mg x st ps) (S : FnScope N ps (defScope st)) (hl : ∀ ds, Pr ds → ds.length = ps.length)
    (hbody : ∀ (f : Addr) (cdv : Value) (A : Around) (outer : List Env) (s : Shared) (H : Hp) (E : XK), Room k (A.deeper (envOfC x (defScope st) s.heap.objs.size f cdv)) →
      ∃ t, PSs (cxOf CX0 P w K mg base N x (defScope st) f cdv A outer s H E).nox (defBody st) t ∧ ∀ (Z : List Addr) (G : Hp) (vs : List V) (ds : List PyData), DxAll K G vs ds → Pr ds → SR K Z t (start N vs) G (fn ds)) :
    Df P w K mg base x (k + 1) ps (spD K Pr fn) := by
  obtain ⟨f, fd, g, F, b⟩ := A0.ex
  exact ⟨f, fd, g, F.kp, b, fn_pure F S hl (hbody f)⟩
theorem all1 {G : Hp} {vs : List V} {d : PyData} (h : DxAll K G vs [d]) : ∃ v, vs = [v] ∧ Dx K G v d := by
  cases h with | cons h t => cases t; exact ⟨_, rfl, h⟩
theorem all2 {G : Hp} {vs : List V} {d e : PyData} (h : DxAll K G vs [d, e]) : ∃ v w, vs = [v, w] ∧ Dx K G v d ∧ Dx K G w e := by
  cases h with | cons h t => obtain ⟨w, rfl, h2⟩ := all1 t; exact ⟨_, w, rfl, h, h2⟩
theorem all3 {G : Hp} {vs : List V} {d e f : PyData} (h : DxAll K G vs [d, e, f]) : ∃ v w u, vs = [v, w, u] ∧ Dx K G v d ∧ Dx K G w e ∧ Dx K G u f := by
  cases h with | cons h t => obtain ⟨w, u, rfl, h2, h3⟩ := all2 t; exact ⟨_, w, u, rfl, h, h2, h3⟩
theorem all4 {G : Hp} {vs : List V} {d e f g : PyData} (h : DxAll K G vs [d, e, f, g]) : ∃ v w u z, vs = [v, w, u, z] ∧ Dx K G v d ∧ Dx K G w e ∧ Dx K G u f ∧ Dx K G z g := by
  cases h with | cons h t => obtain ⟨w, u, z, rfl, h2, h3, h4⟩ := all3 t; exact ⟨_, w, u, z, rfl, h, h2, h3, h4⟩
end

/-! ### built-in types of data -/
def isIntD : PyData → Bool
  | .int _ => true
  | _ => false
def isBoolD : PyData → Bool
  | .bool _ => true
  | _ => false
def isStrD : PyData → Bool
  | .str _ => true
  | _ => false
def isListD : PyData → Bool
  | .list _ => true
  | _ => false
def isTupD : PyData → Bool
  | .tuple _ => true
  | _ => false
theorem kb_int (d : PyData) : kitB (tyD d) "int" = some (isIntD d || isBoolD d) := by
  cases d with
  | none => exact (by decide +kernel : kitB "NoneType" "int" = some false)
  | bool _ => exact (by decide +kernel : kitB "bool" "int" = some true)
  | int _ => exact (by decide +kernel : kitB "int" "int" = some true)
  | str _ => exact (by decide +kernel : kitB "str" "int" = some false)
  | list _ => exact (by decide +kernel : kitB "list" "int" = some false)
  | tuple _ => exact (by decide +kernel : kitB "tuple" "int" = some false)
  | dict _ => exact (by decide +kernel : kitB "dict" "int" = some false)
theorem kb_bool (d : PyData) : kitB (tyD d) "bool" = some (isBoolD d) := by
  cases d with
  | none => exact (by decide +kernel : kitB "NoneType" "bool" = some false)
  | bool _ => exact (by decide +kernel : kitB "bool" "bool" = some true)
  | int _ => exact (by decide +kernel : kitB "int" "bool" = some false)
  | str _ => exact (by decide +kernel : kitB "str" "bool" = some false)
  | list _ => exact (by decide +kernel : kitB "list" "bool" = some false)
  | tuple _ => exact (by decide +kernel : kitB "tuple" "bool" = some false)
  | dict _ => exact (by decide +kernel : kitB "dict" "bool" = some false)
theorem kb_str (d : PyData) : kitB (tyD d) "str" = some (isStrD d) := by
  cases d with
  | none => exact (by decide +kernel : kitB "NoneType" "str" = some false)
  | bool _ => exact (by decide +kernel : kitB "bool" "str" = some false)
  | int _ => exact (by decide +kernel : kitB "int" "str" = some false)
  | str _ => exact (by decide +kernel : kitB "str" "str" = some true)
  | list _ => exact (by decide +kernel : kitB "list" "str" = some false)
  | tuple _ => exact (by decide +kernel : kitB "tuple" "str" = some false)
  | dict _ => exact (by decide +kernel : kitB "dict" "str" = some false)
theorem kb_list (d : PyData) : kitB (tyD d) "list" = some (isListD d) := by
  cases d with
  | none => exact (by decide +kernel : kitB "NoneType" "list" = some false)
  | bool _ => exact (by decide +kernel : kitB "bool" "list" = some false)
  | int _ => exact (by decide +kernel : kitB "int" "list" = some false)
  | str _ => exact (by decide +kernel : kitB "str" "list" = some false)
  | list _ => exact (by decide +kernel : kitB "list" "list" = some true)
  | tuple _ => exact (by decide +kernel : kitB "tuple" "list" = some false)
  | dict _ => exact (by decide +kernel : kitB "dict" "list" = some false)
theorem kb_tuple (d : PyData) : kitB (tyD d) "tuple" = some (isTupD d) := by
  cases d with
  | none => exact (by decide +kernel : kitB "NoneType" "tuple" = some false)
  | bool _ => exact (by decide +kernel : kitB "bool" "tuple" = some false)
  | int _ => exact (by decide +kernel : kitB "int" "tuple" = some false)
  | str _ => exact (by decide +kernel : kitB "str" "tuple" = some false)
  | list _ => exact (by decide +kernel : kitB "list" "tuple" = some false)
  | tuple _ => exact (by decide +kernel : kitB "tuple" "tuple" = some true)
  | dict _ => exact (by decide +kernel : kitB "dict" "tuple" = some false)

/-! ### tables of the module -/
/-- the dict at a: text keys, their values as data -/
def KTab (K : PySem.W.Frag) (w : World) (a : Addr) (kvs : List (Str × PyData)) : Prop :=
  (∃ es n, KDict K w a es n) ∧ ∀ z : Str, ∃ r, PySem.W.nsIn K a z = some r ∧ (match kvs.lookup z with
    | none => r = none
    | some d => ∃ u v, r = some u ∧ RelV v u ∧ ∀ H, Dx K H v d)
section
variable {K : PySem.W.Frag} {w : World} {Z : List Addr} {σ : St} {G G' : Hp} {d d1 d2 e : PyData} {ds es : List PyData} {te ta tb tc : TE} {t u : TT} {b b1 b2 : Bool} {i : Nat} {v : V} {tas : TA} {a : Addr} {kvs : List (Str × PyData)}
theorem KTab.isSome {z : Str} (h : KTab K w a kvs) : ∃ r, PySem.W.nsIn K a z = some r ∧ r.isSome = (kvs.lookup z).isSome := by
  obtain ⟨r, h1, h2⟩ := h.2 z
  refine ⟨r, h1, ?_⟩
  cases q : kvs.lookup z with
  | none => rw [q] at h2; rw [h2]; rfl
  | some d => rw [q] at h2; obtain ⟨u, v, h3, _⟩ := h2; rw [h3]; rfl
theorem ev_inKT {z : Str} (T : KTab K w a kvs) (ha : Ev K Z ta σ G (.str z)) :
    Ev K Z (tOp (fun x y H Q => ∃ (z : Str) (r : Option Value), x = .str z ∧ y = .ref a ∧ PySem.W.nsIn K a z = some r ∧ Q (.bl r.isSome) H) ta (tC (.ref a))) σ G (.bool (kvs.lookup z).isSome) := fun H1 s o Q q => ha H1 s o _ fun v H2 s2 dv => by
  obtain ⟨r, h1, h2⟩ := T.isSome (z := z)
  exact ⟨z, r, dv.str_inv, rfl, h1, q _ H2 s2 (by rw [h2]; exact .bl _)⟩
theorem ev_ixKT {z : Str} (T : KTab K w a kvs) (hb : Ev K Z tb σ G (.str z)) (hz : kvs.lookup z = some d) : Ev K Z (tOp (rIxD K w) (tC (.ref a)) tb) σ G d := fun H1 s o Q q => hb H1 s o _ fun v H2 s2 dv => by
  obtain ⟨⟨es, n, D⟩, h⟩ := T
  obtain ⟨r, h1, h2⟩ := h z
  rw [hz] at h2
  obtain ⟨u, x, rfl, h3, h4⟩ := h2
  exact ⟨a, z, x, rfl, dv.str_inv, ⟨es, n, u, D.1, D.2, h1, h3⟩, q x H2 s2 (h4 _)⟩

/-! ### chains -/
theorem an_chain {r1 r2 : R2} (ha : Ev K Z ta σ G d) (hb : Ev K Z tb σ G d1) (hc : Ev K Z tc σ G d2) (h1 : Rd2 K r1 d d1 (.bool b1)) (h2 : Rd2 K r2 d1 d2 (.bool b2)) : An Z (tTest (tChain r1 r2 ta tb tc)) σ G (b1 && b2) := fun H1 s o Q q =>
  ha H1 s o _ fun x H2 s2 dx => hb H2 (s.trans (same_hid s2)) (o.same s2) _ fun y H3 s3 dy => h1 Z x y H3 (o.same (s2.trans s3)) (Dx.same (same_hid s3) _ _ dx) dy _ fun z H4 s4 dz => ⟨b1, dz.bl_inv, by
    have s24 := s2.trans (s3.trans s4)
    cases b1 with
    | false => exact iteF ⟨false, rfl, q H4 s24⟩
    | true => exact iteT (hc H4 (s.trans (same_hid s24)) (o.same s24) _ fun x2 H5 s5 dx2 => h2 Z y x2 H5 (o.same (s24.trans s5)) (Dx.same (same_hid (s4.trans s5)) _ _ dy) dx2 _ fun z2 H6 s6 dz2 => ⟨b2, dz2.bl_inv, q H6 (s24.trans (s5.trans s6))⟩)⟩
end
end L2
/-! LQ7: loops that may hand back, texts, slices. -/
namespace L2
open PySem PySem.Spec PyProof.Rows
theorem pe_never {X : Cx} {e : Expr} : PE X e (fun _ _ _ => False) := ⟨fun _ _ _ _ _ _ h => h.elim⟩
section
variable (K : PySem.W.Frag) (Z : List Addr)
/-- a loop's body: where b it hands back d, else it goes on with slots of which S holds -/
def BB (tb : TS) (σ : St) (G : Hp) (b : Bool) (d : PyData) (S : St → Prop) : Prop := ∀ H1, Same G (hid Z H1) → Occ Z H1 → ∀ D : Ends,
  (b = true → ∀ v H2, Same H1 H2 → Dx K (hid Z H2) v d → D.rt v H2) → (b = false → ∀ σ' H2, Same H1 H2 → S σ' → D.nx σ' H2) → tb D σ H1
end
section
variable {K : PySem.W.Frag} {w : World} {Z : List Addr} {σ : St} {G G' : Hp} {d d1 d2 e : PyData} {ds es items : List PyData} {te ta tb tc : TE} {t u : TT} {b b1 b2 : Bool} {i j : Nat} {v : V} {tas : TA} {a : Addr} {ts t1 t2 rest tbody : TS} {S : St → Prop}
theorem bb_if (h : An Z t σ G b) (h1 : b = true → SR K Z t1 σ G d) (hs : S σ) : BB K Z (tIfS t t1 tNext) σ G b d S := fun H1 s o D q1 q2 => h H1 s o _ fun H2 s2 => by
  cases b with
  | true => exact iteT (h1 rfl H2 (s.trans (same_hid s2)) (o.same s2) _ fun v H3 s3 dv => q1 rfl v H3 (s2.trans s3) dv)
  | false => exact iteF (q2 rfl σ H2 s2 hs)
theorem sr_for {wi : TI} {g : TG} {p : PyData → Bool} {r : PyData → PyData} {dend : PyData} (hi : EvI K Z wi σ G items) (hS : S σ)
    (hb : ∀ (i : Nat) (d : PyData) (σ1 : St) (G' : Hp), items[i]? = some d → S σ1 → Same G G' → EvG K Z g d σ1 G' fun σ2 G2 => BB K Z tbody σ2 G2 (p d) (r d) S)
    (hr : ∀ (σ1 : St) (G' : Hp), S σ1 → Same G G' → (∀ d ∈ items, p d = false) → SR K Z rest σ1 G' dend) :
    SR K Z (tSeq (tFor wi g tbody) rest) σ G (match items.find? p with | some d => r d | none => dend) := fun H1 s o D q => hi H1 s o _ fun J H2 Gd Y s2 W hG hY => by
  have o2 := o.same s2
  have sG : ∀ {H3 : Hp}, Same H2 H3 → Same G (hid Z H3) := fun {H3} s3 => s.trans (same_hid (s2.trans s3))
  refine for_it W (fun i σ1 H3 => S σ1 ∧ Same H2 H3 ∧ ∀ d ∈ items.take i, p d = false) ⟨hS, Same.refl _, fun d hd => by simp at hd⟩ (fun i σ1 H3 _ h => hG H3 h.2.1) ?_ ?_
  · rintro i x σ1 H3 H4 hlt ⟨h1, s3, hno⟩ y
    obtain ⟨s4, d, hd, dx⟩ := hY i H3 x H4 hlt s3 y
    have dx' := dx Z (same_hid s3) (o2.same s3)
    refine hb i d σ1 (hid Z H4) hd h1 (sG (s3.trans s4)) x H4 (Same.refl _) (o2.same (s3.trans s4)) dx' _ fun σ2 H5 s5 hB => ?_
    refine hB H5 (Same.refl _) (o2.same (s3.trans (s4.trans s5))) _ (fun hp v H6 s6 dv => ?_) (fun hp σ3 H6 s6 h3 => ?_)
    · have hf : items.find? p = some d := by
        have e1 := List.take_append_drop i items
        have e2 : items.drop i = d :: items.drop (i + 1) := by
          obtain ⟨hl, e⟩ := List.getElem?_eq_some_iff.mp hd
          rw [← e]; exact List.drop_eq_getElem_cons hl
        rw [← e1, List.find?_append, List.find?_eq_none.mpr (fun z hz => by rw [hno z hz]; simp), e2, List.find?_cons_of_pos hp]
        rfl
      rw [hf] at q
      exact q v H6 (s2.trans (s3.trans (s4.trans (s5.trans s6)))) dv
    · refine ⟨h3, s3.trans (s4.trans (s5.trans s6)), fun z hz => ?_⟩
      rw [take_snoc hd] at hz
      rcases List.mem_append.mp hz with hz | hz
      · exact hno z hz
      · rw [List.mem_singleton.mp hz]; exact hp
  · rintro σ1 H3 ⟨h1, s3, hno⟩
    rw [List.take_length] at hno
    have hf : items.find? p = none := List.find?_eq_none.mpr fun z hz => by rw [hno z hz]; simp
    rw [hf] at q
    exact hr σ1 (hid Z H3) h1 (sG s3) hno H3 (Same.refl _) (o2.same s3) _ fun v H4 s4 dv => q v H4 (s2.trans (s3.trans s4)) dv

/-! ### f'..' of a text and a number -/
theorem ev_fmtS {x : Str} (h : Ev K Z te σ G (.str x)) (hx : x.length ≤ sizeLine) : Ev K Z (tFmt te) σ G (.str x) := fun H1 s o Q q => h H1 s o _ fun v H2 s2 dv => .inl ⟨x, dv.str_inv, hx, q _ H2 s2 (.str x)⟩
theorem ev_fmtI {n : Int} (h : Ev K Z te σ G (.int n)) (hn : n.natAbs.log2 < 1920) : Ev K Z (tFmt te) σ G (.str (toString n)) := fun H1 s o Q q => h H1 s o _ fun v H2 s2 dv => .inr ⟨n, dv.int_inv, hn, q _ H2 s2 (.str _)⟩
def EvJ (K : PySem.W.Frag) (Z : List Addr) (ts : List TE) (acc : Str) (σ : St) (G : Hp) (out : Str) : Prop := ∀ H1, Same G (hid Z H1) → Occ Z H1 → ∀ Q : Str → Hp → Prop, (∀ H2, Same H1 H2 → Q out H2) → tJs ts acc σ H1 Q
theorem evj_nil {acc : Str} : EvJ K Z [] acc σ G acc := fun H1 s o Q q => q H1 (Same.refl _)
theorem evj_cons {x acc out : Str} {ts : List TE} (h : Ev K Z te σ G (.str x)) (hl : (acc ++ x).length ≤ sizeLine) (ht : EvJ K Z ts (acc ++ x) σ G out) : EvJ K Z (te :: ts) acc σ G out := fun H1 s o Q q => h H1 s o _ fun v H2 s2 dv =>
  ⟨x, dv.str_inv, hl, ht H2 (s.trans (same_hid s2)) (o.same s2) _ fun H3 s3 => q H3 (s2.trans s3)⟩
theorem ev_join {ts : List TE} {out : Str} (h : EvJ K Z ts Str.empty σ G out) : Ev K Z (fun σ H Q => tJs ts Str.empty σ H fun out H1 => Q (.str out) H1) σ G (.str out) := fun H1 s o Q q => h H1 s o _ fun H2 s2 => q _ H2 s2 (.str _)

/-! ### slices -/
def EvO (K : PySem.W.Frag) (Z : List Addr) (t : TO) (σ : St) (G : Hp) (o : Option Int) : Prop := ∀ H1, Same G (hid Z H1) → Occ Z H1 → ∀ Q : Option Int → Hp → Prop, (∀ H2, Same H1 H2 → Q o H2) → t σ H1 Q
theorem evo_none : EvO K Z tNoPart σ G none := fun H1 s o Q q => q H1 (Same.refl _)
theorem evo_some {n : Int} (h : Ev K Z te σ G (.int n)) (hb : -(2 ^ 63) ≤ n ∧ n < 2 ^ 63 := by decide) : EvO K Z (tPart te) σ G (some n) := fun H1 s o Q q => h H1 s o _ fun v H2 s2 dv => by
  first
    | exact ⟨n, dv.int_inv, q H2 s2⟩
    | exact ⟨n, dv.int_inv, hb, q H2 s2⟩
    | exact ⟨n, dv.int_inv, hb.1, hb.2, q H2 s2⟩
def cutD (ds : List PyData) (lo hi : Option Int) : List PyData := (ds.drop (HT.sIx ds.length 0 lo)).take (HT.sIx ds.length ds.length hi - HT.sIx ds.length 0 lo)
theorem DxAll.cut {H : Hp} {vs : List V} (h : DxAll K H vs ds) (lo hi : Option Int) : DxAll K H (cutV vs lo hi) (cutD ds lo hi) := by
  unfold cutV cutD
  rw [h.length]
  exact DxAll.take _ (DxAll.drop _ h)
theorem ev_slL {tl th : TO} {lo hi : Option Int} (h : Ev K Z te σ G (.list ds)) (hl : EvO K Z tl σ G lo) (hh : EvO K Z th σ G hi) : Ev K Z (tSl (rSlL K) te tl th) σ G (.list (cutD ds lo hi)) := fun H1 s o Q q => h H1 s o _ fun v H2 s2 dv =>
  hl H2 (s.trans (same_hid s2)) (o.same s2) _ fun H3 s3 => hh H3 (s.trans (same_hid (s2.trans s3))) (o.same (s2.trans s3)) _ fun H4 s4 => by
    obtain ⟨a, xs, e1, hs, ha⟩ := (Dx.same (same_hid (s3.trans s4)) _ _ dv).lst_inv
    exact ⟨a, xs, e1, hid_sub.seq hs, fun p hp => q _ _ ((s2.trans (s3.trans s4)).upd hp) (.lst ((hid_upd ((o.same (s2.trans (s3.trans s4))).new hp))) (DxAll.same (same_hid (same_upd hp)) _ _ (ha.cut lo hi)))⟩
theorem ev_slT {tl th : TO} {lo hi : Option Int} (h : Ev K Z te σ G (.tuple ds)) (hl : EvO K Z tl σ G lo) (hh : EvO K Z th σ G hi) : Ev K Z (tSl (rSlA K) te tl th) σ G (.tuple (cutD ds lo hi)) := fun H1 s o Q q => h H1 s o _ fun v H2 s2 dv =>
  hl H2 (s.trans (same_hid s2)) (o.same s2) _ fun H3 s3 => hh H3 (s.trans (same_hid (s2.trans s3))) (o.same (s2.trans s3)) _ fun H4 s4 => by
    have dv' := Dx.same (same_hid (s3.trans s4)) _ _ dv
    obtain ⟨a, xs, e1, hs, ha⟩ := dv'.tup_inv
    refine ⟨a, xs, e1, same_t hid_sub hs, fun ⟨z1, z2⟩ => ?_, fun _ p hp => q _ _ ((s2.trans (s3.trans s4)).upd hp) (.tup (.inl (.inl (hid_upd ((o.same (s2.trans (s3.trans s4))).new hp)))) (DxAll.same (same_hid (same_upd hp)) _ _ (ha.cut lo hi)))⟩
    rw [e1] at dv'
    refine q _ H4 (s2.trans (s3.trans s4)) ?_
    have e2 : cutD ds lo hi = ds := by
      unfold cutD
      rw [ha.length] at z1 z2
      rw [z1, z2, Nat.sub_zero, List.drop_zero, List.take_length]
    rw [e2]
    exact dv'
theorem ev_slS {tl th : TO} {lo hi : Option Int} {x : Str} (h : Ev K Z te σ G (.str x)) (hx : x.length ≤ sizeLine) (hl : EvO K Z tl σ G lo) (hh : EvO K Z th σ G hi) : Ev K Z (tSl rSlS te tl th) σ G (.str (cutS x lo hi)) := fun H1 s o Q q => h H1 s o _ fun v H2 s2 dv =>
  hl H2 (s.trans (same_hid s2)) (o.same s2) _ fun H3 s3 => hh H3 (s.trans (same_hid (s2.trans s3))) (o.same (s2.trans s3)) _ fun H4 s4 =>
    ⟨x, dv.str_inv, hx, q _ H4 (s2.trans (s3.trans s4)) (.str _)⟩
theorem strs_dp {H : Hp} : ∀ l : List Str, DxAll K H (l.map V.str) (l.map PyData.str)
  | [] => .nil
  | z :: r => .cons (.str z) (strs_dp r)
/-- s.split(t) -/
theorem ev_split {x y : Str} (h : Ev K Z ta σ G (.str x)) (h2 : Ev K Z te σ G (.str y)) (hy : (y.length == 0) = false) (hx : x.length + 2 ≤ sizeLine) :
    Ev K Z (tM1 (fun x xs H Q => ∃ a b, x = .str a ∧ xs = [.str b] ∧ (b.length == 0) = false ∧ a.length + 2 ≤ sizeLine ∧ rNewStrs (Txt.split a b) H Q) ta te) σ G (.list ((Txt.split x y).map PyData.str)) := fun H1 s o Q q => h H1 s o _ fun v H2 s2 dv =>
  ⟨⟨x, dv.str_inv⟩, h2 H2 (s.trans (same_hid s2)) (o.same s2) _ fun u H3 s3 du => ⟨x, y, dv.str_inv, by rw [du.str_inv], hy, hx, fun p hp => q _ _ ((s2.trans s3).upd hp) (.lst ((hid_upd ((o.same (s2.trans s3)).new hp))) (strs_dp _))⟩⟩
end
end L2
/-! LQ8: data of modest size; tuples for lists all the way in. -/
namespace L2
open PySem PySem.Spec PyProof.Rows
mutual
def smallD : PyData → Bool
  | .str x => decide (x.length ≤ 1000) && PyData.strOk x
  | .list xs => decide (xs.length ≤ 1000) && smallAll xs
  | .tuple xs => decide (xs.length ≤ 1000) && smallAll xs
  | .dict _ => false
  | .none => true
  | .bool _ => true
  | .int _ => true
def smallAll : List PyData → Bool
  | [] => true
  | x :: xs => smallD x && smallAll xs
end
theorem smallAll_iff : ∀ {xs : List PyData}, smallAll xs = true ↔ ∀ x ∈ xs, smallD x = true
  | [] => by simp [smallAll]
  | x :: xs => by
    rw [smallAll, Bool.and_eq_true, smallAll_iff]
    simp
mutual
theorem canLay_small : ∀ d : PyData, smallD d = true → d.canLay0 = true
  | .none, _ => by simp only [PyData.canLay0]
  | .bool _, _ => by simp only [PyData.canLay0]
  | .int _, _ => by simp only [PyData.canLay0]
  | .str x, h => by
    rw [smallD, Bool.and_eq_true] at h
    simp only [PyData.canLay0]
    exact h.2
  | .list xs, h => by
    rw [smallD, Bool.and_eq_true] at h
    simp only [PyData.canLay0]
    exact canLay_smallAll xs h.2
  | .tuple xs, h => by
    rw [smallD, Bool.and_eq_true] at h
    simp only [PyData.canLay0]
    exact canLay_smallAll xs h.2
  | .dict _, h => by rw [smallD] at h; cases h
theorem canLay_smallAll : ∀ ds : List PyData, smallAll ds = true → PyData.canLayAll0 ds = true
  | [], _ => by simp only [PyData.canLayAll0]
  | x :: xs, h => by
    rw [smallAll, Bool.and_eq_true] at h
    simp only [PyData.canLayAll0, canLay_small x h.1, canLay_smallAll xs h.2, Bool.and_self]
end
theorem shaped_small {d : PyData} (h : smallD d = true) (hd : d.depth ≤ 64) : SeqAt.shaped d = true := by
  unfold SeqAt.shaped
  rw [canLay_small d h, Bool.true_and]
  exact decide_eq_true hd
theorem depthAll_le : ∀ {xs : List PyData} {n : Nat}, PyData.depthAll xs ≤ n ↔ ∀ x ∈ xs, x.depth ≤ n
  | [], n => by simp [PyData.depthAll]
  | x :: xs, n => by
    rw [PyData.depthAll, Nat.max_le, depthAll_le]
    simp
theorem depth_list {xs : List PyData} {n : Nat} : (PyData.list xs).depth ≤ n + 1 ↔ ∀ x ∈ xs, x.depth ≤ n := by
  rw [PyData.depth, Nat.add_le_add_iff_right, depthAll_le]
theorem depth_tuple {xs : List PyData} {n : Nat} : (PyData.tuple xs).depth ≤ n + 1 ↔ ∀ x ∈ xs, x.depth ≤ n := by
  rw [PyData.depth, Nat.add_le_add_iff_right, depthAll_le]
theorem small_list {xs : List PyData} (h : smallD (.list xs) = true) : xs.length ≤ 1000 ∧ ∀ x ∈ xs, smallD x = true := by
  rw [smallD, Bool.and_eq_true] at h
  exact ⟨of_decide_eq_true h.1, smallAll_iff.mp h.2⟩
theorem small_tuple {xs : List PyData} (h : smallD (.tuple xs) = true) : xs.length ≤ 1000 ∧ ∀ x ∈ xs, smallD x = true := by
  rw [smallD, Bool.and_eq_true] at h
  exact ⟨of_decide_eq_true h.1, smallAll_iff.mp h.2⟩
theorem small_str {x : Str} (h : smallD (.str x) = true) : x.length ≤ 1000 := by
  rw [smallD, Bool.and_eq_true] at h
  exact of_decide_eq_true h.1
theorem of_small_list {xs : List PyData} (h1 : xs.length ≤ 1000) (h2 : ∀ x ∈ xs, smallD x = true) : smallD (.list xs) = true := by
  rw [smallD, Bool.and_eq_true]
  exact ⟨decide_eq_true h1, smallAll_iff.mpr h2⟩
theorem of_small_tuple {xs : List PyData} (h1 : xs.length ≤ 1000) (h2 : ∀ x ∈ xs, smallD x = true) : smallD (.tuple xs) = true := by
  rw [smallD, Bool.and_eq_true]
  exact ⟨decide_eq_true h1, smallAll_iff.mpr h2⟩
theorem line1000 {n : Nat} (h : n ≤ 1000) : n ≤ sizeLine := by rw [sizeLine_eq]; omega

/-! ### tuples for lists -/
mutual
def fixD : PyData → PyData
  | .list xs => .tuple (fixAll xs)
  | .tuple xs => .tuple (fixAll xs)
  | .none => .none
  | .bool b => .bool b
  | .int i => .int i
  | .str x => .str x
  | .dict k => .dict k
def fixAll : List PyData → List PyData
  | [] => []
  | x :: xs => fixD x :: fixAll xs
end
theorem fixAll_map : ∀ xs : List PyData, fixAll xs = xs.map fixD
  | [] => rfl
  | x :: xs => by rw [fixAll, fixAll_map xs]; rfl
theorem fixD_list (xs : List PyData) : fixD (.list xs) = .tuple (xs.map fixD) := by rw [fixD, fixAll_map]
theorem fixD_tuple (xs : List PyData) : fixD (.tuple xs) = .tuple (xs.map fixD) := by rw [fixD, fixAll_map]
theorem fixD_leaf {d : PyData} (h1 : isListD d = false) (h2 : isTupD d = false) : fixD d = d := by
  cases d <;> first | rfl | (cases h1; done) | (cases h2; done)
mutual
theorem fixD_small : ∀ d : PyData, smallD d = true → smallD (fixD d) = true
  | .none, h => h
  | .bool _, h => h
  | .int _, h => h
  | .str _, h => h
  | .list xs, h => by
    rw [smallD, Bool.and_eq_true] at h
    rw [fixD, smallD, fixAll_map, List.length_map, Bool.and_eq_true, ← fixAll_map]
    exact ⟨h.1, fixAll_small xs h.2⟩
  | .tuple xs, h => by
    rw [smallD, Bool.and_eq_true] at h
    rw [fixD, smallD, fixAll_map, List.length_map, Bool.and_eq_true, ← fixAll_map]
    exact ⟨h.1, fixAll_small xs h.2⟩
  | .dict _, h => by rw [smallD] at h; cases h
theorem fixAll_small : ∀ ds : List PyData, smallAll ds = true → smallAll (fixAll ds) = true
  | [], h => h
  | x :: xs, h => by
    rw [smallAll, Bool.and_eq_true] at h
    rw [fixAll, smallAll, fixD_small x h.1, fixAll_small xs h.2]; rfl
end
mutual
theorem fixD_depth : ∀ d : PyData, (fixD d).depth = d.depth
  | .none => rfl
  | .bool _ => rfl
  | .int _ => rfl
  | .str _ => rfl
  | .list xs => by rw [fixD, PyData.depth, PyData.depth, fixAll_depth xs]
  | .tuple xs => by rw [fixD, PyData.depth, PyData.depth, fixAll_depth xs]
  | .dict _ => rfl
theorem fixAll_depth : ∀ ds : List PyData, PyData.depthAll (fixAll ds) = PyData.depthAll ds
  | [] => rfl
  | x :: xs => by rw [fixAll, PyData.depthAll, PyData.depthAll, fixD_depth x, fixAll_depth xs]
end
end L2
/-! LQ9: all and any of comprehensions; a text so many times; displays of three text keys. -/
namespace L2
open PySem PySem.Spec PyProof.Rows
def rMulS : R2 := fun x y H Q => ∃ (s : Str) (n : Int), x = .str s ∧ y = .int n ∧ MulOk s n ∧ Q (.str (Txt.mul s n)) H
theorem op_mulS {X : Cx} : OpR X (binaryOp .Mult) rMulS := by
  intro pins s σ H x y v u Q I rx ry h
  obtain ⟨z, n, rfl, rfl, hok, q⟩ := h
  obtain ⟨t, rfl⟩ := rx
  obtain ⟨t', rfl⟩ := ry
  exact PySem.SB.mul hok fun t' k => ⟨.str _, H, I.tok _, ⟨_, rfl⟩, q⟩
theorem pe_sliceE {X : Cx} {e : Expr} {te : TE} {lo hi : Option Expr} {tl th : TO} {p2 pos : Pos} (K : PySem.W.Frag) (hK : X.K = K) (he : PE X e te) (hl : PO X lo tl) (hu : PO X hi th) :
    PE X (.Subscript e (.Slice lo hi none p2) pos) (fun σ H Q => tSl (rSlL K) te tl th σ H Q ∨ tSl (rSlA K) te tl th σ H Q) := by
  subst hK
  exact PE.or (pe_slice sl_list he hl hu) (pe_slice sl_tupA he hl hu)
theorem pg_tupK {X : Cx} {es : List Expr} {k : Nat} {t : TGs} {n : Nat} {pos : Pos} (K : PySem.W.Frag) (hK : X.K = K) (hc : X.calm = true) (h : PGs X es t)
    (hn : (assignEach es X.env).length = n := by rfl) (hst : (assignEach es X.env).findIdx? (·.1) = none := by rfl) : PG X (.Tuple es k pos) (gTup K n t) := by
  subst hK
  exact pg_tup hc h hn hst
theorem pe_fldK {X : Cx} {e : Expr} {ta : TE} {f : Str} {pos : Pos} (K : PySem.W.Frag) (hK : X.K = K) (he : PE X e ta) (hb : attributeBase e f X.env (eval e X.env) = eval e X.env) : PE X (.Attribute e f pos) (tFld K ta f) := by
  subst hK
  exact pe_fld he hb
theorem pe_sliceT {X : Cx} {e : Expr} {te : TE} {lo hi : Option Expr} {tl th : TO} {p2 pos : Pos} (K : PySem.W.Frag) (hK : X.K = K) (he : PE X e te) (hl : PO X lo tl) (hu : PO X hi th) :
    PE X (.Subscript e (.Slice lo hi none p2) pos) (tSl (rSlA K) te tl th) := by
  subst hK
  exact pe_slice sl_tupA he hl hu
section
variable {K : PySem.W.Frag} {w : World} {Z : List Addr} {σ : St} {G G' : Hp} {d d1 d2 d3 e : PyData} {ds es items : List PyData} {te ta tb tc : TE} {t u : TT} {b b1 b2 : Bool} {i j : Nat} {v : V} {tas : TA} {a : Addr} {ts t1 t2 rest tbody : TS} {S : St → Prop}
theorem rd_mulS {z : Str} {n : Int} (h : MulOk z n) : Rd2 K rMulS (.str z) (.int n) (.str (Txt.mul z n)) := fun Z v u H o dv du Q q =>
  ⟨z, n, dv.str_inv, du.int_inv, h, q _ H (Same.refl _) (.str _)⟩
theorem ev_allc {wi : TI} {g : TG} {vs : List Nat} {p : PyData → Bool} (hi : EvI K Z wi σ G items) (hn : items.length ≤ sizeLine)
    (hb : ∀ (Z' : List Addr) (i : Nat) (d : PyData) (G' : Hp), items[i]? = some d → Same G G' → EvG K Z' g d (wipe σ vs) G' fun σ2 G2 => wipe σ2 vs = wipe σ vs ∧ Ev K Z' te σ2 G2 (.bool (p d))) :
    Ev K Z (tCB (rAll K) (tCons (tLc wi g tYes te vs) tNil)) σ G (.bool (items.all p)) := by
  have h := ev_lc (f := fun d => PyData.bool (p d)) hi hn hb
  have e1 : items.map (fun d => PyData.bool (p d)) = (items.map p).map PyData.bool := by rw [List.map_map]; rfl
  rw [e1] at h
  refine (ev_cb (eva_cons h eva_nil) rc_all).to ?_
  rw [List.all_map]; rfl
theorem ev_anyc {wi : TI} {g : TG} {vs : List Nat} {p : PyData → Bool} (hi : EvI K Z wi σ G items) (hn : items.length ≤ sizeLine)
    (hb : ∀ (Z' : List Addr) (i : Nat) (d : PyData) (G' : Hp), items[i]? = some d → Same G G' → EvG K Z' g d (wipe σ vs) G' fun σ2 G2 => wipe σ2 vs = wipe σ vs ∧ Ev K Z' te σ2 G2 (.bool (p d))) :
    Ev K Z (tCB (rAny K) (tCons (tLc wi g tYes te vs) tNil)) σ G (.bool (items.any p)) := by
  have h := ev_lc (f := fun d => PyData.bool (p d)) hi hn hb
  have e1 : items.map (fun d => PyData.bool (p d)) = (items.map p).map PyData.bool := by rw [List.map_map]; rfl
  rw [e1] at h
  refine (ev_cb (eva_cons h eva_nil) rc_any).to ?_
  rw [List.any_map]; rfl
/-- a name is set to {k1: .., k2: .., k3: ..} -/
theorem sr_disp3 {k1 k2 k3 : Str} (h12 : k1 ≠ k2) (h13 : k1 ≠ k3) (h23 : k2 ≠ k3) (ha : ∀ Z, Ev K Z ta σ G d1) (hb : ∀ Z, Ev K Z tb σ G d2) (hc : ∀ Z, Ev K Z tc σ G d3)
    (h : ∀ p u1 u2 u3 G', Same G G' → G' p = some (.dK [(.inr k1, u1), (.inr k2, u2), (.inr k3, u3)]) → Dx K G' u1 d1 → Dx K G' u2 d2 → Dx K G' u3 d3 → SR K Z rest (σ.set i (some (.ref p))) G' d) :
    SR K Z (tSeq (tAsg (tDisp [(tC (.str k1), ta), (tC (.str k2), tb), (tC (.str k3), tc)]) (gName i)) rest) σ G d := fun H1 s o D q p hp => by
  have hpZ := o.new hp
  have s0 : Same H1 (upd H1 p (.dK [])) := same_upd hp
  have oP : ∀ {H2 : Hp}, Same (upd H1 p (.dK [])) H2 → Occ (p :: Z) H2 := fun {H2} s2 z hz => by
    rcases List.mem_cons.mp hz with e | e
    · rw [e, s2 _ _ upd_same]; simp
    · exact o.same (s0.trans s2) z e
  have sP : ∀ {H2 : Hp}, Same (upd H1 p (.dK [])) H2 → Same G (hid (p :: Z) H2) := fun {H2} s2 b x e => by
    obtain ⟨e1, e2⟩ := hid_some (s _ _ e)
    have hb : b ∉ p :: Z := fun z => (List.mem_cons.mp z).elim (fun z => by rw [z, hp] at e2; cases e2) e1
    rw [hid_out hb]; exact s2 _ _ (s0 _ _ e2)
  refine ha (p :: Z) _ (sP (Same.refl _)) (oP (Same.refl _)) _ fun u1 H2 s2 du1 => ?_
  refine hb (p :: Z) _ (sP s2) (oP s2) _ fun u2 H3 s3 du2 => ?_
  refine hc (p :: Z) _ (sP (s2.trans s3)) (oP (s2.trans s3)) _ fun u3 H4 s4 du3 => ?_
  have s24 := s2.trans (s3.trans s4)
  refine ⟨s24 _ _ upd_same, [(.inr k1, u1), (.inr k2, u2), (.inr k3, u3)], rfl, by simp, ?_⟩
  have em : mergeK [] [((.inr k1 : Key), u1), (.inr k2, u2), (.inr k3, u3)] = [(.inr k1, u1), (.inr k2, u2), (.inr k3, u3)] := by
    simp [mergeK, putK, h12, h13, h23]
  have keep : Same (hid (p :: Z) H4) (hid Z (upd H4 p (.dK [((.inr k1 : Key), u1), (.inr k2, u2), (.inr k3, u3)]))) := fun b x e => by
    obtain ⟨e1, e2⟩ := hid_some e
    have hb1 : b ≠ p := fun z => e1 (by rw [z]; exact List.mem_cons_self)
    have hb2 : b ∉ Z := fun z => e1 (List.mem_cons_of_mem _ z)
    rw [hid_out hb2, upd_ne hb1]; exact e2
  have sE : Same H1 (upd H4 p (.dK [((.inr k1 : Key), u1), (.inr k2, u2), (.inr k3, u3)])) := fun b x e => by
    rw [upd_ne (ne_of_none e hp)]; exact s24 _ _ (s0 _ _ e)
  first
    | exact h p u1 u2 u3 _ ((sP s24).trans keep) (hid_upd hpZ) (Dx.same ((same_hid (s3.trans s4)).trans keep) _ _ du1) (Dx.same ((same_hid s4).trans keep) _ _ du2) (Dx.same keep _ _ du3) _ (Same.refl _) (o.same sE) D fun v H5 s5 dv => q v H5 (sE.trans s5) dv
    | (rw [em]; exact h p u1 u2 u3 _ ((sP s24).trans keep) (hid_upd hpZ) (Dx.same ((same_hid (s3.trans s4)).trans keep) _ _ du1) (Dx.same ((same_hid s4).trans keep) _ _ du2) (Dx.same keep _ _ du3) _ (Same.refl _) (o.same sE) D fun v H5 s5 dv => q v H5 (sE.trans s5) dv)
/-- what a dict of text keys holds -/
theorem ev_dget {z : Str} {p : Addr} {kvs : List (Key × V)} {v : V} (hv : σ[i]? = some (some (.ref p))) (hp : G p = some (.dK kvs)) (hk : Ev K Z tb σ G (.str z)) (hz : valV kvs (.inr z) = some v) (hd : Dx K G v d) :
    Ev K Z (tDGet (tVar i) tb) σ G d := fun H1 s o Q q => ⟨.ref p, hv, hk H1 s o _ fun y H2 s2 dy => ⟨p, v, rfl, by
      rw [dy.str_inv, ← hz]
      exact DGet.k (k := .inr z) (s2 _ _ (hid_sub _ _ (s _ _ hp))), q v H2 s2 (Dx.same (s.trans (same_hid s2)) _ _ hd)⟩⟩
end
end L2
namespace L2
open PySem PySem.Spec PyProof.Rows
section
variable {K : PySem.W.Frag} {Z : List Addr} {σ : L2.St} {G : Hp} {d d1 : PyData} {ts : TS}
theorem SR.to (h : SR K Z ts σ G d) (e : d = d1) : SR K Z ts σ G d1 := e ▸ h
theorem rc_strI {i : Int} (hi : i.natAbs.log2 < 1920) : RdC K (fun xs H Q => ∃ i, xs = [.int i] ∧ i.natAbs.log2 < 1920 ∧ Q (.str (toString i)) H) [.int i] (.str (toString i)) := fun Z vs H o h Q q => by
  cases h with
  | cons h1 h2 =>
    cases h2
    rw [h1.int_inv]
    exact ⟨i, rfl, hi, q _ H (Same.refl _) (.str _)⟩
end
end L2
namespace L2
open PySem PySem.Spec PyProof.Rows
theorem strOk_iff {x : Str} : PyData.strOk x = true ↔ ∀ c ∈ x.cps, c < 0x110000 := by
  unfold PyData.strOk
  rw [Array.all_eq_true']
  simp
theorem strOk_sub {x : Str} {i j : Nat} (h : PyData.strOk x = true) : PyData.strOk (Builtin.Str.strSub x i j) = true := by
  rw [strOk_iff] at h ⊢
  intro c hc
  refine h c ?_
  unfold Builtin.Str.strSub at hc
  first
    | exact Array.mem_of_mem_extract hc
    | (simp only at hc; rw [Array.mem_extract_iff_getElem] at hc; obtain ⟨k, hk, rfl⟩ := hc; exact Array.getElem_mem _)
theorem split_ok {x y : Str} (h : PyData.strOk x = true) : ∀ b ∈ Txt.split x y, PyData.strOk b = true := by
  intro b hb
  unfold Txt.split at hb
  split at hb
  · rw [List.mem_singleton.mp hb]; exact h
  split at hb
  · rw [List.mem_singleton.mp hb]; exact h
  unfold Builtin.Str.partsBetween at hb
  simp only at hb
  obtain ⟨p, _, rfl⟩ := List.mem_map.mp hb
  exact strOk_sub h
end L2
namespace L2
open PySem PySem.Spec PyProof.Rows
section
variable {K : PySem.W.Frag} {Z : List Addr} {σ : L2.St} {G : Hp} {d d1 : PyData} {te : TE}
theorem ev_neg {n : Int} (h : Ev K Z te σ G (.int n)) : Ev K Z (tUn (rU fun i => .int (-i)) te) σ G (.int (-n)) := fun H1 s o Q q => h H1 s o _ fun v H2 s2 dv => ⟨n, dv.int_inv, q _ H2 s2 (.int _)⟩
end
end L2
namespace L2
open PySem PySem.Spec PyProof.Rows
section
variable {K : PySem.W.Frag} {Z : List Addr} {σ : L2.St} {G : Hp} {d d1 d2 : PyData} {ta tb tc : TE} {b1 b2 : Bool}
theorem ev_chain {r1 r2 : R2} (ha : Ev K Z ta σ G d) (hb : Ev K Z tb σ G d1) (hc : Ev K Z tc σ G d2) (h1 : Rd2 K r1 d d1 (.bool b1)) (h2 : Rd2 K r2 d1 d2 (.bool b2)) : Ev K Z (tChain r1 r2 ta tb tc) σ G (.bool (b1 && b2)) := fun H1 s o Q q =>
  ha H1 s o _ fun x H2 s2 dx => hb H2 (s.trans (same_hid s2)) (o.same s2) _ fun y H3 s3 dy => h1 Z x y H3 (o.same (s2.trans s3)) (Dx.same (same_hid s3) _ _ dx) dy _ fun z H4 s4 dz => ⟨b1, dz.bl_inv, by
    have s24 := s2.trans (s3.trans s4)
    cases b1 with
    | false => exact iteF (q _ H4 s24 (.bl false))
    | true => exact iteT (hc H4 (s.trans (same_hid s24)) (o.same s24) _ fun x2 H5 s5 dx2 => h2 Z y x2 H5 (o.same (s24.trans s5)) (Dx.same (same_hid (s4.trans s5)) _ _ dy) dx2 _ fun z2 H6 s6 dz2 => q z2 H6 (s24.trans (s5.trans s6)) dz2)⟩
theorem cut_tail {h : PyData} {r : List PyData} : cutD (h :: r) (some 1) none = r := by
  unfold cutD HT.sIx
  simp
  try omega
theorem atI_end {h : PyData} {r : List PyData} {x : PyData} (hx : r.getLast? = some x) : atI (h :: r) (-1) = some x := by
  cases r with
  | nil => cases hx
  | cons a r =>
    rw [List.getLast?_eq_getElem?] at hx
    have h1 : (1 : Int) ≤ (r.length : Int) + 1 + 1 := by omega
    have h2 : (-1 + ((r.length : Int) + 1 + 1)).toNat = r.length + 1 := by omega
    simp [atI, ixN, h1, h2]
    simpa using hx
end
end L2
/-! LX: a caught exception that the block behind its clause goes on to look at. -/
namespace L2
open PySem PySem.Spec PyProof.Rows
section
variable {X : Cx} {pins : List (Addr × Obj)} {σ : L2.St} {H : Hp} {s : Shared}
/-- what holds in the clause holds behind it, the exception still pinned -/
theorem Inv.outOf {a : Addr} {q : List (Addr × Obj)} {pn' : List (Addr × Obj)} (I : Inv (X.suite a q) pn' σ H s) (ok : X.Ok) : Inv (X.tr q X.xe) pn' σ H s :=
  { ok := ok.toTry _ _, os := I.os, bare := I.bare, base := I.base, loc := I.loc, cell := I.cell, free := I.free, freeC := I.freeC, pin := fun p hp => I.pin p hp, hok := I.hok, len := I.len }
theorem Inv.unpin {q : Addr × Obj} {pn' : List (Addr × Obj)} {xe : Value → Shared → Prop} (I : Inv (X.tr (q :: (X.pn ++ pins)) xe) pn' σ H s) (ok : X.Ok) : Inv X pins σ H s :=
  { ok := ok, os := I.os, bare := I.bare, base := I.base, loc := I.loc, cell := I.cell, free := I.free, freeC := I.freeC, pin := fun p hp => I.pin p (List.mem_append.mpr (.inl (List.mem_cons.mpr (.inr hp)))), hok := I.hok, len := I.len }
theorem SP.unpin {q : Addr × Obj} {xe : Value → Shared → Prop} {D : Ends} {f : Flow} {s' : Shared} (ok : X.Ok) (h : SP (X.tr (q :: (X.pn ++ pins)) xe) [] D f s') : SP X pins D f s' := by
  cases f with
  | next => exact let ⟨a, b, I, w⟩ := h; ⟨a, b, I.unpin ok, w⟩
  | brk => exact let ⟨a, b, I, w⟩ := h; ⟨a, b, I.unpin ok, w⟩
  | cont => exact let ⟨a, b, I, w⟩ := h; ⟨a, b, I.unpin ok, w⟩
  | ret u => exact let ⟨v, a, b, I, r, w⟩ := h; ⟨v, a, b, I.unpin ok, r, w⟩
end
/-- what 'except x as n' wishes, where the rest of the block goes on with the exception -/
def wHold (K : PySem.W.Frag) (c : Value) (i : Nat) (ts u : Addr → Value → Option Addr → TS) (Wout : WX) (D : Ends) : WX := fun cls d σ H =>
  ∃ b, PySem.W.exmOne K cls c = some b ∧ (b = false → Wout cls d σ H) ∧
    (b = true → ∀ a, H a = none → ts a cls d { D with nx := fun σ' H' => u a cls d D (σ'.set i none) H', bk := fun _ _ => False, ct := fun _ _ => False } (σ.set i (some (.ref a))) H)
section
variable {X : Cx} {x n : Str} {c : Value} {i : Nat} {body suite rest : List Stmt} {b₀ : Stmt} {np pos pos' : Pos} {tb : WX → TS} {ts u1 : Addr → Value → Option Addr → TS} {u0 : TS} {Wout : WX}
theorem pss_try_hold (hs : X.stack = X.env :: X.outer) (hf : X.env.frame = some X.env.locals) (nod : X.N.Nodup) (hi : X.N[i]? = some n) (hln : X.env.kindOf n = some .local) (hc : Names X x c) (tk : Takes X Wout)
    (hbody : ∀ (W : WX) (pn : List (Addr × Obj)) (xe : Value → Shared → Prop), Takes (X.tr pn xe) W → PassesOwn (model X.prog X.w) X.A X.env xe → PSs (X.tr pn xe) body (tb W))
    (hsuite : ∀ (a : Addr) (oe : Obj) (cls : Value) (d : Option Addr) (pn : List (Addr × Obj)), Zc cls d oe → (∃ vs, oe.data = .fields vs) → PSs (X.suite a ((a, oe) :: pn)) (b₀ :: suite) (ts a cls d))
    (h0 : PSs X rest u0) (h1 : ∀ (a : Addr) (oe : Obj) (cls : Value) (d : Option Addr) (pn : List (Addr × Obj)), Zc cls d oe → (∃ vs, oe.data = .fields vs) → PSs (X.tr ((a, oe) :: pn) X.xe) rest (u1 a cls d)) :
    PSs X (.Try body [.ExceptHandler (some (.Name x np)) (some n) (b₀ :: suite) pos'] [] [] pos :: rest) (fun D σ H => tb (wHold X.K c i ts u1 Wout D) { D with nx := u0 D } σ H) := by
  refine ⟨fun pins s σ H D I h => ?_⟩
  have ok := I.ok
  let M := model X.prog X.w
  let Post : Flow → Shared → Prop := fun f s1 => match f with
    | .next => wpAny M X.A (execs rest X.env) (SP X pins D) X.xe s1
    | f => SP X pins D f s1
  have key : wpAny M X.A (exec (.Try body [.ExceptHandler (some (.Name x np)) (some n) (b₀ :: suite) pos'] [] [] pos) X.env) Post X.xe s := by
    refine wpAny_Try_except ?_
    let xe1 : Value → Shared → Prop := fun e s₁ => wpAny M X.A (noteFrame e X.env) (fun _ s₂ => wpAny M X.A (setFlight e none) (fun _ s₃ => wpAny M X.A (handleBy e X.env [.ExceptHandler (some (.Name x np)) (some n) (b₀ :: suite) pos']) Post X.xe s₃) X.xe s₂) X.xe s₁
    have tk1 : Takes (X.tr (X.pn ++ pins) xe1) (wHold X.K c i ts u1 Wout D) := by
      rintro u s' ⟨a, B, sI, p1, σ', H', cls, d, rfl, J1, nb, up, sky, na, hos, ag, b, hb1, hno, hyes⟩
      have J : Inv X pins σ' H' sI := J1.ofTry ok
      rw [show (X.tr (X.pn ++ pins) xe1).stack = X.env :: X.outer from hs] at sky
      show wpAny M X.A (noteFrame (.ref a) X.env) _ _ _
      refine Sky.land Zc.steady (by rw [ok.frames, hs]) hf sky fun g3 f3 w3 => ?_
      have J3 : Inv X pins σ' H' { s' with heap := g3 } := J.landed nb f3.1 (up.trans w3) hos ag
      obtain ⟨o3, v3, e3, z3, d3⟩ := f3.there
      have away : a ∉ frs (X.env :: X.outer) := fun hm => by
        obtain ⟨_, o', e', hnf⟩ := f3.2.2.1.mem hm
        rw [e3] at e'
        cases e'
        exact hnf _ d3
      have neL : a ≠ X.env.locals := fun z => away (List.mem_filterMap.mpr ⟨X.env, .head _, by rw [hf, z]⟩)
      have neF : a ∉ X.fs := fun hm => let ⟨e, he, q⟩ := List.mem_filterMap.mp hm; away (List.mem_filterMap.mpr ⟨e, .tail _ he, q⟩)
      have S3 := J3.suite e3 d3 na neL neF
      have asks := PySem.W.exm_one (M := M) J3.kIn (fun A Q E s k q => wpAny_typeOf_ref (k _ _ e3) (by rw [z3.1]; exact q)) hb1
      have clause : ∀ {Q E : Value → Shared → Prop}, Q c { s' with heap := g3 } → wpAny M (X.A.mark (some (.ref a))) (eval (.Name x np) X.env) Q E { s' with heap := g3 } := by
        intro Q E q
        obtain ⟨hg, hdb, ⟨hm⟩ | ⟨hm, hv, hnn⟩⟩ := hc
        · exact ld_glob (X := X.suite a ((a, o3) :: (X.pn ++ pins))) S3 hg ‹_› q hdb
        · exact ld_blt (X := X.suite a ((a, o3) :: (X.pn ++ pins))) S3 hg hm hv q hnn hdb
      refine wpAny_handleBy_cons (codeAny_handlers_test (clause (asks.here ?_))) nofun
      cases b with
      | false =>
        show wpAny _ X.A (handleBy (.ref a) X.env []) _ _ _
        refine wpAny_handleBy_nil ?_
        obtain ⟨_, _, _, o, vs, T, oT, tt, he, hz, hd, q1, hr⟩ := id f3
        have fly : wpAny M X.A (setFlight (.ref a) X.env.frame) (fun _ s4 => wpAny M X.A (throw (.ref a) : Sem Flow) Post X.xe s4) X.xe { s' with heap := g3 } := by
          rw [hf]
          exact HandSPX.setFlight_upZ f3 fun h4 hh4 w4 => wpAny_throw (tk _ _ ⟨a, B, sI, pins, σ', H', cls, d, rfl, J, nb, (up.trans w3).trans w4, .inr (.inr (by rw [hs]; exact hh4)), na, hos, ag, hno rfl⟩)
        unfold PySem.passOn
        refine wpAny_bind (wpAny_field he hd q1 ?_)
        rw [if_neg (by simp : ¬ ((Value.ref T == Value.none) = true))]
        first | exact wpAny_bind (wpAny_pure (wpAny_bind fly)) | exact wpAny_bind fly
      | true =>
        refine codeAny_handlers_suite_as (HandSPX.lands_againZ f3 fun g4 f4 w4 => ?_)
        obtain ⟨o4, v4, e4, z4, d4⟩ := f4.there
        have S4 := (J.landed (s' := { s' with heap := g4 }) nb f4.1 ((up.trans w3).trans w4) hos ag).suite e4 d4 na neL neF
        refine store_ok (X := X.suite a ((a, o4) :: (X.pn ++ pins))) (v := .ref a) S4 nod hi (.inl hln) rfl (fun s5 S5 => ?_) (.inr hln)
        refine wpAny_mono ((hsuite a o4 cls d _ z4 ⟨_, d4⟩).run [] s5 _ H' _ S5 (hyes rfl a na)) (fun f s6 hsp => ?_) (fun _ _ z => z.elim)
        have gone : ∀ {σ6 : L2.St} {H6 : Hp} {Q : Shared → Prop}, Inv (X.suite a ((a, o4) :: (X.pn ++ pins))) [] σ6 H6 s6 → (∀ s7, Inv (X.tr ((a, o4) :: (X.pn ++ pins)) X.xe) [] (σ6.set i none) H6 s7 → Q s7) →
            wpAny M X.A (do bindName X.env n .none; unbindBehindTheSuite X.env n pos') (fun _ s7 => Q s7) X.xe s6 := fun S6 hq => gone_ok (X := X.tr ((a, o4) :: (X.pn ++ pins)) X.xe) (S6.outOf ok) nod hi hln hq
        cases f with
        | next =>
          obtain ⟨σ6, H6, S6, q6⟩ := hsp
          refine gone S6 fun s7 J7 => ?_
          exact thn ((h1 a o4 cls d (X.pn ++ pins) z4 ⟨_, d4⟩).run [] s7 _ H6 D J7 q6) fun f s8 hsp => SP.unpin ok hsp
        | brk => exact hsp.elim fun _ z => z.elim fun _ z => z.2.elim
        | cont => exact hsp.elim fun _ z => z.elim fun _ z => z.2.elim
        | ret u =>
          obtain ⟨v6, σ6, H6, S6, r6, q6⟩ := hsp
          exact gone S6 fun s7 J7 => ⟨v6, _, H6, J7.unpin ok, r6, q6⟩
    refine wpAny_mono ((hbody _ (X.pn ++ pins) xe1 tk1 PassesOwn.looking).run [] s σ H _ (I.toTry _) h) (fun f s1 hsp => ?_) (fun e s1 he => he)
    cases f with
    | next =>
      obtain ⟨σ', H', J', q⟩ := hsp
      exact wpAny_execs_nil (h0.run pins s1 σ' H' D (J'.ofTry ok) q)
    | brk => exact let ⟨_, _, J', q⟩ := hsp; ⟨_, _, J'.ofTry ok, q⟩
    | cont => exact let ⟨_, _, J', q⟩ := hsp; ⟨_, _, J'.ofTry ok, q⟩
    | ret u => exact let ⟨_, _, _, J', r, q⟩ := hsp; ⟨_, _, _, J'.ofTry ok, r, q⟩
  refine wpAny_execs_cons (thn key fun f s1 q => ?_)
  cases f <;> exact q
end
end L2
/-! LY: isinstance and fields of an exception that the context pins, its dict written. -/
namespace L2
open PySem PySem.W PySem.Spec PySem.Calls PyProof.Rows
section
variable {prog : Program} {w : World} {A : Around} {E : Value → Shared → Prop} {s : Shared} {K : PySem.W.Frag} {x D : Addr} {ox : Obj} {od : Option Obj}
theorem findObj_data {name : Str} {a g : Value} (hc : (clsIn K D).isSome = true) (ha : findIn K (.ref D) name = some (some a)) (hg : specialIn K a "__get__" = some (some g)) (ht : takesIn K a = some true) : findObj K D od name = some (.bind g a) := by
  obtain ⟨cd, e⟩ := Option.isSome_iff_exists.mp hc
  unfold findObj
  rw [e, Option.bind_some, ha, Option.bind_some]
  simp only [hg, ht, Option.bind_some]
theorem class_of_exc {Q : Option Value → Shared → Prop} (C : ExcC K D) (X : K.In s.heap) (I : PySem.W.InstAt s.heap x ox D od) (h : Q (some (.ref D)) { s with toks := s.toks + 1 }) : wpAny (model prog w) A (getAttr? (.ref x) "__class__") Q E s := by
  have ff : findObj K D od "__class__" = some (.bind (.builtin "getset_descriptor.__get__") (.builtin "object.__class__")) := findObj_data (by obtain ⟨cd, e, _⟩ := any_some C.hd; rw [e]; rfl) C.ha C.hn C.ht
  obtain ⟨hp, gg, dd, tk, oo⟩ := s
  have l0 := I.type (M := model prog w)
  have l1 := looks_findIn (M := model prog w) X C.hg
  have l2 := looks_findIn (M := model prog w) X C.hk
  have l3 := looks_find (M := model prog w) X I ff
  have isBase : Looks (model prog w) hp (isInstance (.ref x) (.type "BaseException")) true := l0.andThen (looks_subIn X C.hs)
  let gaB : Value := .builtin "BaseException.__getattribute__"
  have ne2 : (gaB == Value.builtin "object.__getattribute__") = false := by decide +kernel
  have ne0 : (false && onTheHeap gaB) = false := rfl
  have ne1 : (onTheHeap (Value.ref D) && gaB == Value.builtin "object.__getattribute__") = false := by
    rw [ne2]
    rfl
  unfold getAttr? getAttrBy? getAttrBy
  refine wpAny_bind (wpAny_mkText (wpAny_bind (wpAny_attempt (wpAny_holding (wpAny_bind (l0.at (wpAny_bind (l1.at ?_))))))))
  show wpAny _ _ (if (onTheHeap (Value.ref D) && gaB == Value.builtin "object.__getattribute__") = true then _ else _) _ _ _
  rw [ne1, if_neg Bool.false_ne_true]
  unfold getAttrByItsOwn hookBefore
  refine wpAny_bind ?_
  have onh : onTheHeap (Value.ref D) = true := rfl
  rw [if_pos onh]
  refine l2.at (wpAny_bind (wpAny_attempt (wpAny_holding ?_)))
  unfold callGetattribute
  rw [show (false && onTheHeap (Value.builtin "BaseException.__getattribute__")) = false from ne0, if_neg Bool.false_ne_true]
  unfold boundAndCalled
  rw [PySem.F.excAttr_ValueError.ga.bind (.ref x)]
  refine wpAny_bind (wpAny_pure ?_)
  show wpAny _ _ (call gaB [.ref x, .str "__class__" tk]) _ _ _
  refine wpAny_call (codeAny_call_builtin PySem.F.excAttr_ValueError.ga.plain PySem.F.entry_bexc_ga ?_)
  refine @check_slot (model prog w) _ _ ⟨hp, gg, dd, tk + 1, oo⟩ "BaseException.__getattribute__" "BaseException" "__getattribute__" (.ref x) [.str "__class__" tk] [] _ (by decide +kernel) (by decide +kernel) isBase (PySem.F.args_bexc_ga (.ref x) (.str "__class__" tk)) ?_
  unfold Builtin.«object.__getattribute__»
  refine wpAny_bind (wpAny_of_eq (a := ((Value.ref x : Value), [Value.str "__class__" tk])) (by first | rfl | (simp only [slotArgs]; rfl)) ?_)
  refine wpAny_bind (wpAny_pure (wpAny_bind (l0.at (wpAny_bind (l3.at ?_)))))
  show wpAny _ _ (holding [Value.builtin "object.__class__"] (call (.builtin "getset_descriptor.__get__") [.builtin "object.__class__", .ref x, .ref D]) >>= ret) _ _ _
  refine wpAny_bind (wpAny_holding (wpAny_call (class_get (s := ⟨hp, gg, dd, tk + 1, oo⟩) (ox := ox) (od := od) X I C.hm ?_)))
  refine wpAny_pure ?_
  show wpAny _ _ (handedOut (.ref D)) _ _ _
  rw [handedOut_of (v := .ref D) rfl]
  first
    | exact wpAny_pure (wpAny_pure h)
    | exact wpAny_pure h
    | exact wpAny_pure (wpAny_bind (wpAny_pure (wpAny_pure h)))
theorem excCls_there (C : ExcC K D) : ∃ c d cd sl, K.lookup D = some ⟨c, d, .cls cd, sl⟩ := by
  obtain ⟨cd, e, _⟩ := any_some C.hd
  unfold clsIn at e
  split at e
  · rename_i c d cd' sl ho
    exact ⟨_, _, _, _, ho⟩
  · cases e
theorem kitx_exc (C : ExcC K D) : KitX K (.ref x) (.ref D) (fun h => PySem.W.InstAt h x ox D od) where
  ty := fun _ _ _ I => I.type
  it := fun _ _ X _ => by
    obtain ⟨c, d, cd, sl, ho⟩ := excCls_there C
    intro A' Q' E' s' k q
    unfold isType loadHead
    exact wpAny_bind (wpAny_loadPart (k _ _ (X _ _ ho)) (wpAny_pure q))
  ne := fun h tp dd its n sl X htp => Bool.eq_false_iff.mpr fun q => by
    obtain ⟨c, d, cd, sl, ho⟩ := excCls_there C
    obtain rfl : D = tp := Value.ref.inj (beq_iff_eq.mp q)
    cases (X _ _ ho).symm.trans htp
  ca := fun X I k => class_of_exc C X I k
end
/-- isinstance(e, c), e a pinned exception with a dict of its own -/
def rIsP (K : PySem.W.Frag) (a : Addr) (cls : Value) (d : Option Addr) : List V → Hp → VK → Prop := fun xs H Q => ∃ (D dd : Addr) (fs : List (Str × V)) (c : V) (cv : Value) (b : Bool), xs = [.ref a, c] ∧ cls = .ref D ∧ d = some dd ∧ H dd = some (.xd fs) ∧ ExcC K D ∧ (∀ u, RelV c u → u = cv) ∧ PySem.W.kitOne K (.ref D) cv = some b ∧ Q (.bl b) H
section
variable {X : Cx} {a : Addr} {cls : Value} {d : Option Addr} {oe : Obj}
theorem inst_pin {pins : List (Addr × Obj)} {σ : L2.St} {H : Hp} {s : Shared} {D dd : Addr} {fs : List (Str × V)} (I : Inv X pins σ H s) (hp : (a, oe) ∈ X.pn) (hz : Zc (.ref D) (some dd) oe) (hf : ∃ vs, oe.data = .fields vs) (hd : H dd = some (.xd fs)) :
    ∃ (od : Obj) (mA : Str → Option Value), PySem.W.InstAt s.heap a oe D (some od) ∧ (∀ n, PySem.W.lookIn n od = some (mA n)) ∧ ∀ f, RelO (fs.lookup f) (mA f) := by
  obtain ⟨ha, _⟩ := I.pin (a, oe) (List.mem_append_left _ hp)
  obtain ⟨vs, e⟩ := hf
  have hx : ObjOk X.prog X.w H s.heap dd (.xd fs) := I.hok dd _ hd
  obtain ⟨mA, hns, hr⟩ := hx
  obtain ⟨od, ho, hl⟩ := lookIn_ns hns
  exact ⟨od, mA, ⟨ha, hz.1, by unfold PySem.W.notCls; rw [e] <;> rfl, by rw [hz.2]; exact ho⟩, hl, hr⟩
theorem call_isP (hp : (a, oe) ∈ X.pn) (hz : Zc cls d oe) (hf : ∃ vs, oe.data = .fields vs) : CallR X (.builtin "isinstance") (rIsP X.K a cls d) := by
  intro pins s σ H xs us Q I r h
  obtain ⟨D, dd, fs, c, cv, b, rfl, rfl, rfl, hd, C, hcv, e, q⟩ := h
  obtain ⟨u1, u2, rfl, r1, r2⟩ := vals2 r
  cases r1
  cases hcv _ r2
  obtain ⟨od, mA, J, _⟩ := inst_pin I hp hz hf hd
  exact PySem.W.kia_one (kitx_exc C) I.kIn J e nofun fun tk => ⟨.bl b, H, I.kept (t' := tk) fun _ _ z => z, rfl, q⟩
def tXp (K : PySem.W.Frag) (a : Addr) (cls : Value) (d : Option Addr) (f : Str) (te : TE) : TE := fun σ H Q => te σ H fun x H1 => ∃ (D dd : Addr) (fs : List (Str × V)) (v : V), x = .ref a ∧ cls = .ref D ∧ XfC K D ∧ PySem.W.findIn K (.ref D) f = some none ∧ d = some dd ∧ H1 dd = some (.xd fs) ∧ fs.lookup f = some v ∧ Q v H1
theorem pe_xp {e : Expr} {te : TE} {pos : Pos} {n : Str} (hp : (a, oe) ∈ X.pn) (hz : Zc cls d oe) (hf : ∃ vs, oe.data = .fields vs) (he : PE X e te) (hb : attributeBase e n X.env (eval e X.env) = eval e X.env := by rfl) : PE X (.Attribute e n pos) (tXp X.K a cls d n te) := by
  refine ⟨fun pins s σ H Q I h => attr_of hb (thn (he.run pins s σ H _ I h) fun u s1 hh => ?_)⟩
  obtain ⟨x, H1, I1, rx, D, dd, fs, v, rfl, rfl, T, hno, rfl, ea, l, q⟩ := hh
  obtain rfl : u = Value.ref a := rx
  obtain ⟨od, mA, J, hl, hr⟩ := inst_pin I1 hp hz hf ea
  obtain ⟨u, hu, ru⟩ := RelO.some_of (v := v) (o := mA n) (by rw [← l]; exact hr n)
  exact HandSPX.exc_get I1.kIn J T.ga T.gg T.exC (PySem.W.findObj_own T.hdC hno rfl (by rw [hl, hu])) (handed_of ru) ⟨v, H1, I1.tok _, ru, q⟩
end
end L2
/-! LZ: == and != of an instance whose class has its own __eq__, any answer. -/
namespace L2
open PySem PySem.W PySem.Spec PyProof.Rows
section
variable {prog : Program} {w : World} {A : Around} {E : Value → Shared → Prop} {s : Shared} {K : PySem.W.Frag} {x C L f : Addr} {h₀ : Heap} {m : Str → Option Value} {ox : Obj} {od : Option Obj} {b tb : Value} {Q : Value → Shared → Prop}
theorem ne_bound {R : Option Value → Shared → Prop} (X : K.In s.heap) (I : PySem.W.InstAt s.heap x ox C od) (hs : findIn K (.ref C) "__ne__" = some (some (.builtin "object.__ne__")))
    (h : wpAny (model prog w) A (call (.builtin "object.__ne__") [.ref x, b]) (fun v => R (some v)) E s) : wpAny (model prog w) A (callSpecialIfBound? (.ref x) "__ne__" [b]) R E s := by
  simp only [callSpecialIfBound?, bindSpecialIfBound?]
  refine wpAny_holding (wpAny_bind (wpAny_bind (wpAny_bind (I.type.here ((looks_findIn X hs).here ?_)))))
  refine wpAny_bind (wpAny_askSetting (wpAny_ite ?_))
  have last : wpAny (model prog w) A (call (.builtin "object.__ne__") ([.ref x] ++ [b]) >>= fun v => pure (some v)) R E s := by
    exact wpAny_bind (wpAny_mono h (fun v s' q => wpAny_pure q) fun _ _ q => q)
  split
  · exact wpAny_bind (wpAny_of_eq (F.cmp_object.ne.bind _) (wpAny_pure last))
  · exact wpAny_tryCatch (wpAny_bind (wpAny_of_eq (F.cmp_object.ne.bind _) (wpAny_pure last)))
theorem ne_call (hu : A.units + 1 < cLine) (X : K.In s.heap) (I : PySem.W.InstAt s.heap x ox C od) (hm : mroIn K C (.type "object") = some true) (hs : findIn K (.ref C) "__eq__" = some (some (.ref f))) (hf : isFn K (.ref f) = true)
    (h : wpAny (model prog w) A.in1 (call (.ref f) [.ref x, b]) (fun v s' => ∃ r, v = .bool r ∧ Q (.bool (!r)) s') E s) : wpAny (model prog w) A (call (.builtin "object.__ne__") [.ref x, b]) Q E s := by
  refine wpAny_call (codeAny_call_builtin F.cmp_object.ne.plain F.cmpEntry_ne (check_slot F.cmpKind_ne F.cmpSplit_ne (I.type.andThen (looks_mroIn X hm)) (F.cmpArgs_ne _ _) ?_))
  unfold Builtin.«object.__ne__»
  refine wpAny_bind (wpAny_of_eq (a := ((Value.ref x : Value), [b])) (by first | rfl | (simp only [Builtin.slotArgs]; rfl)) ?_)
  refine wpAny_bind (wpAny_cRoomFor (by show A.units + 1 < cLine; exact hu) ?_)
  refine wpAny_bind (m := callSpecialIfBound? (.ref x) "__eq__" [b]) (ifBound_K X I hs hf (wpAny_mono h (fun v s' q => ?_) fun _ _ q => q))
  obtain ⟨r, rfl, q⟩ := q
  exact wpAny_bind (wpAny_truthy_bool (wpAny_pure q))
theorem ne_rich (hu : A.units + 1 < cLine) (X : K.In s.heap) (I : PySem.W.InstAt s.heap x ox C od) (hm : mroIn K C (.type "object") = some true) (hb : Looks (model prog w) s.heap (typeOf b) tb) (hn : notFirst K C tb = true)
    (hs : findIn K (.ref C) "__eq__" = some (some (.ref f))) (hf : isFn K (.ref f) = true) (hne : findIn K (.ref C) "__ne__" = some (some (.builtin "object.__ne__")))
    (h : wpAny (model prog w) A.in1 (call (.ref f) [.ref x, b]) (fun v s' => ∃ r, v = .bool r ∧ Q (.bool (!r)) s') E s) : wpAny (model prog w) A (richCompare .NotEq (.ref x) b) Q E s := by
  have one : wpAny (model prog w) A (tryCompare (.ref x) "__ne__" b) (fun r s' => ∃ k, r = some (.bool k) ∧ Q (.bool k) s') E s := by
    unfold tryCompare
    refine wpAny_bind (ne_bound X I hne (ne_call hu X I hm hs hf (wpAny_mono h (fun v s' hv => ?_) fun _ _ e => e)))
    obtain ⟨r, rfl, q⟩ := hv
    exact ⟨r, rfl, wpAny_pure ⟨_, rfl, q⟩⟩
  have two : ∀ {R : Value → Shared → Prop} {k : Option Value → Sem Value}, (∀ r s', Q (.bool r) s' → wpAny (model prog w) A (k (some (.bool r))) R E s') → wpAny (model prog w) A (tryCompare (.ref x) "__ne__" b >>= k) R E s := fun hk =>
    wpAny_bind (wpAny_mono one (fun r s' ⟨k, e, q⟩ => by rw [e]; exact hk k s' q) fun _ _ e => e)
  unfold richCompare
  simp only [oneThing_ref]
  refine wpAny_holding (wpAny_bind (wpAny_cRoomFor (by omega) ?_))
  refine wpAny_bind (I.type.here (wpAny_bind (hb.here ?_)))
  split
  · rename_i q
    have e : subIn K tb (.ref C) = some false := by
      rcases Bool.or_eq_true_iff.mp hn with e | e
      · exact absurd q (by rw [beq_iff_eq.mp e]; simp)
      · exact beq_iff_eq.mp e
    refine wpAny_bind ((looks_subIn X e).here ?_)
    simp only [Bool.false_eq_true, if_false]
    exact two fun r s' q => wpAny_pure q
  · refine wpAny_bind (wpAny_pure ?_)
    simp only [Bool.false_eq_true, if_false]
    exact two fun r s' q => wpAny_pure q
end
/-- x == y, x != y: x of the class at C, its own __eq__ keeping sp -/
def rOwnEq (K : PySem.W.Frag) (C : Addr) (neg : Bool) (sp : Sp) (E : XK) : R2 := fun x y H Q => ∃ a dx fs t, x = .ref a ∧ H a = some (.ins C dx fs) ∧ TyX K H y t ∧ notFirst K C t = true ∧ sp [x, y] H (fun v H' => ∃ b, v = .bl b ∧ Q (.bl (if neg = true then !b else b)) H') E
section
variable {X : Cx} {CX : CXT} {C f : Addr} {n : Nat} {fd : FuncData} {ps : List Str} {sp : Sp} {E : XK}
theorem own_call (F : FnOk X.prog X.w X.K X.mg X.base CX n f fd ps sp) (hb : Binds X.K fd ps []) (hx : Passes CX X E) {A : Around} (sb : Sub X n A) {pins : List (Addr × Obj)} {s : Shared} {σ : L2.St} {H : Hp} {x y : V} {u v : Value} {Q : VK} (I : Inv X pins σ H s) (rx : RelV x u) (ry : RelV y v) (q : sp [x, y] H Q E) :
    wpAny (model X.prog X.w) A (call (.ref f) [u, v]) (EP X pins σ Q) X.xe s := by
  have e0 : Env0 X.prog X.w X.K X.mg X.base A X.stack s H := let e := I.env0; ⟨by rw [sb.fr]; exact e.frames, e.mod, e.bs, e.bsz, e.funs, e.frf, e.hok, e.bare⟩
  have hl := F.len _ _ _ _ q
  refine wpAny_call (codeAny_mono (F.run A X.stack s H ⟨[u, v], []⟩ [u, v] [x, y] Q E sb.room e0 (by simpa using hb s [u, v] I.kIn (by simpa using hl)) (.cons rx (.cons ry .nil)) q) fun r s' hq => ?_)
  cases r with
  | error e => exact hx pins σ H s e s' I hq
  | ok fl =>
    cases fl with
    | ret w => exact I.after hq
    | next => exact hq.elim
    | brk => exact hq.elim
    | cont => exact hq.elim
theorem op_ownEq (F : FnOk X.prog X.w X.K X.mg X.base CX n f fd ps sp) (hb : Binds X.K fd ps []) (hx : Passes CX X E) (hs : findIn X.K (.ref C) "__eq__" = some (some (.ref f))) (hf : isFn X.K (.ref f) = true) (hr : Room n X.A) : OpR X (compareOp .Eq) (rOwnEq X.K C false sp E) := by
  intro pins s σ H x y v u Q I rx ry h
  obtain ⟨a, dx, fs, t, rfl, ha, ty, hn, q⟩ := h
  cases rx
  obtain ⟨P, Kx, hp, _⟩ := kit_of I ry ty
  obtain ⟨mA, J, _⟩ := ins_get I.hok ha
  obtain ⟨od, J, _⟩ := J.look
  obtain ⟨m, hF⟩ := I.fr
  unfold compareOp
  refine cmp_K (op := .Eq) hr.units0 hF I.ok.mod.kin J (Kx.ty _ _ I.kIn hp) hn hs hf ?_
  refine wpAny_mono (own_call (x := V.ref a) F hb hx ⟨hr, rfl⟩ I rfl ry q) (fun w s' hw => ?_) fun _ _ e => e
  obtain ⟨z, H', I', rz, b, rfl, q⟩ := hw
  cases rz
  exact ⟨.bl b, H', I', rfl, q⟩
theorem op_ownNe (F : FnOk X.prog X.w X.K X.mg X.base CX n f fd ps sp) (hb : Binds X.K fd ps []) (hx : Passes CX X E) (hs : findIn X.K (.ref C) "__eq__" = some (some (.ref f))) (hf : isFn X.K (.ref f) = true)
    (hne : findIn X.K (.ref C) "__ne__" = some (some (.builtin "object.__ne__"))) (hm : mroIn X.K C (.type "object") = some true) (hr : Room (n + 1) X.A) : OpR X (compareOp .NotEq) (rOwnEq X.K C true sp E) := by
  intro pins s σ H x y v u Q I rx ry h
  obtain ⟨a, dx, fs, t, rfl, ha, ty, hn, q⟩ := h
  cases rx
  obtain ⟨P, Kx, hp, _⟩ := kit_of I ry ty
  obtain ⟨mA, J, _⟩ := ins_get I.hok ha
  obtain ⟨od, J, _⟩ := J.look
  unfold compareOp
  refine ne_rich (by have := hr.units; omega) I.kIn J hm (Kx.ty _ _ I.kIn hp) hn hs hf hne ?_
  refine wpAny_mono (own_call (x := V.ref a) F hb hx ⟨hr.in1, rfl⟩ I rfl ry q) (fun w s' hw => ?_) fun _ _ e => e
  obtain ⟨z, H', I', rz, b, rfl, q⟩ := hw
  cases rz
  exact ⟨b, rfl, .bl _, H', I', rfl, q⟩
end
end L2
/-! LR: defs that may raise an exception with one field. -/
namespace L2
open PySem PySem.Spec PyProof.Rows
section
variable {P : Program} {w : World} {K : PySem.W.Frag} {mg : Str → Option Value} {base : Heap}
/-- what C.__init__(self, part) promises -/
def spPart (C : Addr) : Sp := fun vs H Q _ => ∃ (a : Addr) (p : V), vs = [.ref a, p] ∧ H a = some (exo a C none) ∧ ∀ dx, H dx = none → dx ≠ a → Q .non (upd (upd H dx (exd dx [("part", p)])) a (exo a C (some dx)))
/-- an exception class of the text -/
structure ExK (P : Program) (w : World) (K : PySem.W.Frag) (mg : Str → Option Value) (base : Heap) (name : Str) (C : Addr) : Prop where
  g : mg name = some (.ref C)
  oex : OexC K C
  ini : ∃ fI fd, PySem.W.findIn K (.ref C) "__init__" = some (some (.ref fI)) ∧ PySem.W.typeIn K (.ref fI) = some (.type "function") ∧ Binds K fd ["self", "part"] [] ∧ FnOk P w K mg base CX0 1 fI fd ["self", "part"] (spPart C)
  noPart : PySem.W.findIn K (.ref C) "part" = some none
theorem sem_part {C a : Addr} {p : V} {H : Hp} {D : Ends} (T : OexC K C) (hno : PySem.W.findIn K (.ref C) "part" = some none) (ha : H a = some (exo a C none))
    (q : ∀ dx, H dx = none → dx ≠ a → D.nx [some (.ref a), some p] (upd (upd H dx (exd dx [("part", p)])) a (exo a C (some dx)))) : tOst K "part" (tVar 0) (tVar 1) D [some (.ref a), some p] H :=
  ⟨p, rfl, .ref a, rfl, a, C, rfl, T, hno, .inl ⟨ha, q⟩⟩
end
/-- raise C(text) -/
theorem sem_raise {K : PySem.W.Frag} {Z : List Addr} {σ : L2.St} {G H1 : Hp} {te : TE} {C : Addr} {p : Str} {E : XK} (h : Ev K Z te σ G (.str p)) (s : Same G (hid Z H1)) (o : Occ Z H1)
    (q : ∀ d H2, Same H1 H2 → H2 d = some (.xd [("part", .str p)]) → E (.ref C) (some d) H2) : tMkO C (spPart C) [] (tCons te tNil) σ H1 (fun cls d H' => E cls d H') := by
  refine h H1 s o _ fun v H2 s2 dv => ⟨Nat.le_of_ble_eq_true rfl, fun a ha => ⟨a, v, rfl, upd_same, fun dx hd hne => ⟨rfl, dx, [("part", v)], upd_same, ?_, ?_, ?_⟩⟩⟩
  · rw [upd_ne hne]; exact upd_same
  · rwa [upd_ne hne] at hd
  · have hd' : H2 dx = none := by rwa [upd_ne hne] at hd
    rw [dv.str_inv]
    refine q dx _ (fun b u e => ?_) upd_same
    have e2 := s2 _ _ e
    have n1 : b ≠ a := ne_of_none e2 ha
    have n2 : b ≠ dx := ne_of_none e2 hd'
    rw [upd_ne n2, del_ne n1, upd_ne n1, upd_ne n2, upd_ne n1]
    exact e2
/-- a promise of data: None, or an exception of a class with a text -/
def spX (K : PySem.W.Frag) (P : List PyData → Prop) (f : List PyData → Option (Addr × Str)) : Sp := fun vs H Q E => ∃ (Z : List Addr) (ds : List PyData), Occ Z H ∧ DxAll K (hid Z H) vs ds ∧ P ds ∧
  (f ds = none → ∀ H', Same H H' → Q .non H') ∧ ∀ C p, f ds = some (C, p) → ∀ d H', Same H H' → H' d = some (.xd [("part", .str p)]) → E (.ref C) (some d) H'
/-- a statement that raises, or goes on -/
def XS (Z : List Addr) (t : TS) (σ : L2.St) (G : Hp) (E : XK) (o : Option (Addr × Str)) : Prop := ∀ H1, Same G (hid Z H1) → Occ Z H1 → ∀ D : Ends, (o = none → ∀ H2, Same H1 H2 → D.nx σ H2) →
  (∀ C p, o = some (C, p) → ∀ d H2, Same H1 H2 → H2 d = some (.xd [("part", .str p)]) → E (.ref C) (some d) H2) → t D σ H1
section
variable {K : PySem.W.Frag} {Z : List Addr} {σ : L2.St} {G : Hp} {E : XK} {te : TE} {tas : TA} {ds : List PyData} {t u : TS} {tt : TT} {o o2 : Option (Addr × Str)} {b : Bool} {C : Addr} {p : Str}
theorem xs_call {Pd : List PyData → Prop} {f : List PyData → Option (Addr × Str)} (ha : EvA K Z tas σ G ds) (hp : Pd ds) : XS Z (tDrop (tCall (spX K Pd f) [] E tas)) σ G E (f ds) := fun H1 s o D q1 q2 => ha H1 s o _ fun vs H2 s2 dvs => by
  rw [List.append_nil]
  exact ⟨Z, ds, o.same s2, dvs, hp, fun e H3 s3 => q1 e H3 (s2.trans s3), fun C p e d H3 s3 => q2 C p e d H3 (s2.trans s3)⟩
theorem xs_raise (ht : An Z tt σ G b) (he : Ev K Z te σ G (.str p)) : XS Z (tIfS tt (fun _ σ H => tMkO C (spPart C) [] (tCons te tNil) σ H fun cls d H' => E cls d H') tNext) σ G E (if b = true then some (C, p) else none) := fun H1 s o D q1 q2 => ht H1 s o _ fun H2 s2 => by
  cases b with
  | true => exact iteT (sem_raise he (s.trans (same_hid s2)) (o.same s2) fun d H3 s3 e => q2 C p rfl d H3 (s2.trans s3) e)
  | false => exact iteF (q1 rfl H2 s2)
theorem XS.to {o2 : Option (Addr × Str)} (h : XS Z t σ G E o) (e : o = o2) : XS Z t σ G E o2 := e ▸ h
/-- one after another -/
theorem xs_seq (h : XS Z t σ G E o) (h2 : o = none → XS Z u σ G E o2) : XS Z (tSeq t u) σ G E (o.or o2) := fun H1 s oc D q1 q2 => h H1 s oc _ (fun e H2 s2 => by
    subst e
    exact h2 rfl H2 (s.trans (same_hid s2)) (oc.same s2) D (fun e2 H3 s3 => q1 e2 H3 (s2.trans s3)) fun C p e2 d H3 s3 => q2 C p e2 d H3 (s2.trans s3))
  fun C p e d H2 s2 => by
    subst e
    exact q2 C p rfl d H2 s2
end
section
variable {P : Program} {w : World} {K : PySem.W.Frag} {mg : Str → Option Value} {base : Heap}
/-- a def that keeps a promise, perhaps by an exception -/
def DfX (P : Program) (w : World) (K : PySem.W.Frag) (mg : Str → Option Value) (base : Heap) (x : Str) (k : Nat) (ps : List Str) (sp : Sp) : Prop :=
  ∃ f fd, mg x = some (.ref f) ∧ PySem.W.keepIn K (.ref f) = true ∧ Binds K fd ps [] ∧ FnOk P w K mg base (L2.CX P w) k f fd ps sp
theorem df_x {x : Str} {st : Stmt} {N ps : List Str} {k : Nat} {Pr : List PyData → Prop} {fn : List PyData → Option (Addr × Str)} (A0 : At K mg x st ps) (S : FnScope N ps (defScope st)) (hl : ∀ ds, Pr ds → ds.length = ps.length)
    (hbody : ∀ (f : Addr) (cdv : Value) (A : Around) (outer : List Env) (s : Shared) (H : Hp) (E : XK), Room k (A.deeper (envOfC x (defScope st) s.heap.objs.size f cdv)) →
      ∃ t, PSs (cxOf (L2.CX P w) P w K mg base N x (defScope st) f cdv A outer s H E) (defBody st) t ∧ ∀ (Z : List Addr) (G : Hp) (vs : List V) (ds : List PyData), DxAll K G vs ds → Pr ds → XS Z t (start N vs) G E (fn ds)) :
    DfX P w K mg base x (k + 1) ps (spX K Pr fn) := by
  obtain ⟨f, fd, g, F, b⟩ := A0.ex
  refine ⟨f, fd, g, F.kp, b, F.okX S (fun vs H Q E h => ?_) (fun cdv A outer s H vs Q E hr h => ?_)⟩
  · obtain ⟨Z, ds, _, dv, hp, _⟩ := h
    rw [dv.length]; exact hl ds hp
  · obtain ⟨t, ht, hs⟩ := hbody f cdv A outer s H E hr
    obtain ⟨Z, ds, o, dv, hp, q1, q2⟩ := h
    exact ⟨t, ht, hs Z (hid Z H) vs ds dv hp H (Same.refl _) o _ q1 q2⟩
end
end L2
namespace L2
open PySem PySem.Spec PyProof.Rows
/-- raises, or does F -/
def XC (Z : List Addr) (t : TS) (σ : L2.St) (G : Hp) (E : XK) (o : Option (Addr × Str)) (F : Ends → Hp → Prop) : Prop := ∀ H1, Same G (hid Z H1) → Occ Z H1 → ∀ D : Ends, (o = none → ∀ H2, Same H1 H2 → F D H2) →
  (∀ C p, o = some (C, p) → ∀ d H2, Same H1 H2 → H2 d = some (.xd [("part", .str p)]) → E (.ref C) (some d) H2) → t D σ H1
section
variable {K : PySem.W.Frag} {Z : List Addr} {σ : L2.St} {G G' : Hp} {E : XK} {te : TE} {tas : TA} {ds : List PyData} {t u : TS} {tt : TT} {o o2 : Option (Addr × Str)} {b : Bool} {C x : Addr} {p : Str} {F : Ends → Hp → Prop} {i : Nat} {v : V} {d : PyData}
theorem xc_seq (h : XS Z t σ G E o) (h2 : o = none → XC Z u σ G E o2 F) : XC Z (tSeq t u) σ G E (o.or o2) F := fun H1 s oc D q1 q2 => h H1 s oc _ (fun e H2 s2 => by
    subst e
    exact h2 rfl H2 (s.trans (same_hid s2)) (oc.same s2) D (fun e2 H3 s3 => q1 e2 H3 (s2.trans s3)) fun C p e2 d H3 s3 => q2 C p e2 d H3 (s2.trans s3))
  fun C p e d H2 s2 => by
    subst e
    exact q2 C p rfl d H2 s2
theorem xc_end (h : XS Z t σ G E o) : XC Z (tSeq t u) σ G E o (fun D H => u D σ H) := fun H1 s oc D q1 q2 => h H1 s oc _ q1 q2
theorem ev_callQv {Pq : PyData → Prop} {f : PyData → PyData} (hv : σ[i]? = some (some v)) (hd : Dq K G v d) (hp : Pq d) {spq : (PySem.W.Frag → (PyData → Prop) → (PyData → PyData) → Sp)} (hsp : ∀ (vs : List V) (H : Hp) (Q : VK) (E : XK) (Z : List Addr) (v : V) (d : PyData), Occ Z H → vs = [v] → Dq K (hid Z H) v d → Pq d → (∀ v H', Same H H' → Dx K (hid Z H') v (f d) → Q v H') → spq K Pq f vs H Q E) :
    Ev K Z (tCall (spq K Pq f) [] E (tCons (tVar i) tNil)) σ G (f d) := fun H1 s oc Q q => ⟨v, hv, hsp _ _ _ _ Z v d oc rfl (hd.same s) hp fun w H2 s2 dw => q w H2 s2 dw⟩
/-! ### instances with fields of data -/
def FR (K : PySem.W.Frag) (G : Hp) : List (Str × V) → List (Str × PyData) → Prop := Paired fun p q => p.1 = q.1 ∧ Dx K G p.2 q.2
theorem FR.same (s : Same G G') : ∀ {fs : List (Str × V)} {fd : List (Str × PyData)}, FR K G fs fd → FR K G' fs fd
  | _, _, .nil => .nil
  | _, _, .cons h t => .cons ⟨h.1, Dx.same s _ _ h.2⟩ (FR.same s t)
theorem FR.lookup {f : Str} {d : PyData} : ∀ {fs : List (Str × V)} {fd : List (Str × PyData)}, FR K G fs fd → fd.lookup f = some d → ∃ v, fs.lookup f = some v ∧ Dx K G v d
  | _, _, .nil, e => by cases e
  | (a, v) :: fs, (b, e) :: fd, .cons h t, e2 => by
    obtain ⟨h1, h2⟩ := h
    simp only at h1 h2
    subst h1
    rw [List.lookup_cons] at e2 ⊢
    cases q : (f == a) with
    | true =>
      rw [q] at e2
      cases e2
      exact ⟨v, rfl, h2⟩
    | false =>
      rw [q] at e2
      exact FR.lookup t e2
theorem FR.length : ∀ {fs : List (Str × V)} {fd : List (Str × PyData)}, FR K G fs fd → fs.length = fd.length
  | _, _, .nil => rfl
  | _, _, .cons _ t => by rw [List.length_cons, List.length_cons, FR.length t]
theorem FR.put {f : Str} {v : V} {d : PyData} (hd : Dx K G v d) : ∀ {fs : List (Str × V)} {fd : List (Str × PyData)}, FR K G fs fd → (fd.all fun p => !decide (p.1 = f)) = true → FR K G (putF f v fs) (fd ++ [(f, d)])
  | _, _, .nil, _ => .cons ⟨rfl, hd⟩ .nil
  | (a, x) :: fs, (b, e) :: fd, .cons h t, q => by
    obtain ⟨h1, h2⟩ := h
    simp only at h1 h2
    subst h1
    rw [List.all_cons, Bool.and_eq_true, Bool.not_eq_true', decide_eq_false_iff_not] at q
    unfold putF
    rw [if_neg q.1]
    exact .cons ⟨rfl, h2⟩ (FR.put hd t q.2)
/-- an instance that is being written: hidden -/
structure Mid (K : PySem.W.Frag) (Z : List Addr) (G H0 : Hp) (x C dx : Addr) (fd : List (Str × PyData)) (H : Hp) : Prop where
  at_ : ∃ fs, H x = some (.ins C dx fs) ∧ FR K (hid (x :: Z) H) fs fd
  same : Same G (hid (x :: Z) H)
  occ : Occ (x :: Z) H
  old : Same H0 H
theorem mid_fld {H0 H : Hp} {dx : Addr} {fd : List (Str × PyData)} {f : Str} {D : Ends} (c : Cls K C) (n : NoAttr K C f) (hx : σ[0]? = some (some (.ref x))) (h0 : H0 x = none) (he : Ev K (x :: Z) te σ G d) (M : Mid K Z G H0 x C dx fd H)
    (hl : fd.length < 100) (hf : (fd.all fun p => !decide (p.1 = f)) = true) (q : ∀ H', Mid K Z G H0 x C dx (fd ++ [(f, d)]) H' → D.nx σ H') : sFld K (tVar 0) te f D σ H := he H M.same M.occ _ fun y H2 s2 dy => by
  obtain ⟨fs, e, r⟩ := M.at_
  have e2 := s2 _ _ e
  refine ⟨.ref x, hx, x, C, dx, fs, rfl, e2, c, n, by rw [r.length]; omega, q _ ?_⟩
  have keep : Same (hid (x :: Z) H2) (hid (x :: Z) (upd H2 x (.ins C dx (putF f y fs)))) := same_but fun b u hb e => by
    rw [upd_ne fun z => hb (by rw [z]; exact List.mem_cons_self)]; exact e
  refine ⟨⟨_, upd_same, ?_⟩, M.same.trans ((same_hid s2).trans keep), fun z hz => ?_, fun b u e => ?_⟩
  · exact FR.put (Dx.same keep _ _ dy) ((r.same (same_hid s2)).same keep) hf
  · by_cases hzx : z = x
    · rw [hzx, upd_same]; simp
    · rw [upd_ne hzx]; exact (M.occ.same s2) z hz
  · rw [upd_ne (ne_of_none e h0)]
    exact s2 _ _ (M.old _ _ e)
/-- an instance of the class at C with fields of data -/
def InsD (K : PySem.W.Frag) (C : Addr) (G : Hp) (x : Addr) (fd : List (Str × PyData)) : Prop := ∃ dx fs, G x = some (.ins C dx fs) ∧ FR K G fs fd
theorem InsD.same {fd : List (Str × PyData)} (h : InsD K C G x fd) (s : Same G G') : InsD K C G' x fd := by
  obtain ⟨dx, fs, e, r⟩ := h
  exact ⟨dx, fs, s _ _ e, r.same s⟩
theorem Mid.ins {H0 H : Hp} {dx : Addr} {fd : List (Str × PyData)} (M : Mid K Z G H0 x C dx fd H) (hx : x ∉ Z) : InsD K C (hid Z H) x fd := by
  obtain ⟨fs, e, r⟩ := M.at_
  exact ⟨dx, fs, by rw [hid_out hx]; exact e, r.same (hid_less fun b hb => List.mem_cons_of_mem _ hb)⟩
theorem ev_fld {fd : List (Str × PyData)} {f : Str} (c : Cls K C) (n : NoAttr K C f) (hv : σ[i]? = some (some (.ref x))) (hi : InsD K C G x fd) (hf : fd.lookup f = some d) : Ev K Z (tFld K (tVar i) f) σ G d := fun H1 s oc Q q => by
  obtain ⟨dx, fs, e, r⟩ := hi
  obtain ⟨v, hl, dv⟩ := r.lookup hf
  exact ⟨.ref x, hv, x, C, dx, fs, v, rfl, hid_sub _ _ (s _ _ e), c, n, hl, q v H1 (Same.refl _) (Dx.same s _ _ dv)⟩
end
end L2
namespace L2
open PySem PySem.Spec PyProof.Rows
theorem sr_run {K : PySem.W.Frag} {Z : List Addr} {t : TS} {σ : L2.St} {H : Hp} {d : PyData} {D : Ends} (oc : Occ Z H) (q : ∀ v H2, Same H H2 → Dx K (hid Z H2) v d → D.rt v H2) (h : SR K Z t σ (hid Z H) d) : t D σ H := h H (Same.refl _) oc D q
end L2
/-! LP: a list that draws (cells, how many were begun, a rest); expressions that draw. -/
namespace L2
open PySem PySem.Spec PyProof.Rows
/-- only p may have changed, and its first item has not -/
def SB (p : Addr) (H H' : Hp) : Prop := (∀ b o, b ≠ p → H b = some o → H' b = some o) ∧ ∀ w a r, H p = some (.lst [w, a, r]) → ∃ a' r', H' p = some (.lst [w, a', r'])
theorem SB.refl {p : Addr} {H : Hp} : SB p H H := ⟨fun _ _ _ e => e, fun w a r e => ⟨a, r, e⟩⟩
theorem SB.of {p : Addr} {H H' : Hp} (s : Same H H') : SB p H H' := ⟨fun b o _ e => s b o e, fun w a r e => ⟨a, r, s _ _ e⟩⟩
theorem SB.trans {p : Addr} {H H' H'' : Hp} (a : SB p H H') (b : SB p H' H'') : SB p H H'' := ⟨fun x o n e => b.1 x o n (a.1 x o n e), fun w x y e => let ⟨_, _, e2⟩ := a.2 w x y e; b.2 _ _ _ e2⟩
theorem SB.hid {p : Addr} {Z : List Addr} {H H' : Hp} (hp : p ∈ Z) (s : SB p H H') : Same (L2.hid Z H) (L2.hid Z H') := same_but fun b o hb e => s.1 b o (fun z => hb (z ▸ hp)) e
theorem SB.pen {p : Addr} {H : Hp} {w x y a r : V} (e : H p = some (.lst [w, a, r])) : SB p H (L2.upd H p (.lst [w, x, y])) := ⟨fun b u n e => by rw [upd_ne n]; exact e, fun w2 a2 r2 e2 => by
  rw [e] at e2
  cases e2
  exact ⟨x, y, upd_same⟩⟩
section
variable {K : PySem.W.Frag} {p : Addr} {H H' : Hp} {n m : Nat} {Z : List Addr}
/-- the pen at p: these cells, a begun, r left -/
def Pn (K : PySem.W.Frag) (p : Addr) (cells : List Int) (a r : Int) (H : Hp) : Prop := ∃ v, H p = some (.lst [v, .int a, .int r]) ∧ Dx K (hid [p] H) v (.list (cells.map PyData.int))
theorem Pn.same {cells : List Int} {a r : Int} (h : Pn K p cells a r H) (s : Same H H') : Pn K p cells a r H' := by
  obtain ⟨v, e, d⟩ := h
  exact ⟨v, s _ _ e, Dx.same (same_hid s) _ _ d⟩
theorem Pn.data {cells : List Int} {a r : Int} (h : Pn K p cells a r H) : Dx K H (.ref p) (.list [.list (cells.map PyData.int), .int a, .int r]) := by
  obtain ⟨v, e, d⟩ := h
  exact .lst (e) (.cons (Dx.same hid_sub _ _ d) (.cons (.int a) (.cons (.int r) .nil)))
def Pen (K : PySem.W.Frag) (p : Addr) (n : Nat) (H : Hp) : Prop := ∃ (cells : List Int) (a r : Int), Pn K p cells a r H ∧ cells.length ≤ 60 ∧ 0 ≤ a ∧ a ≤ n ∧ 0 ≤ r
theorem Pen.same (h : Pen K p n H) (s : Same H H') : Pen K p n H' := by
  obtain ⟨c, a, r, h1, h2⟩ := h
  exact ⟨c, a, r, h1.same s, h2⟩
theorem Pen.le (h : Pen K p n H) (hn : n ≤ m) : Pen K p m H := by
  obtain ⟨c, a, r, h1, h2, h3, h4, h5⟩ := h
  exact ⟨c, a, r, h1, h2, h3, by omega, h5⟩
theorem Pen.there (h : Pen K p n H) : H p ≠ none := by
  obtain ⟨c, a, r, ⟨v, e, _⟩, _⟩ := h
  rw [e]; simp
theorem Occ.sb (o : Occ Z H) (s : SB p H H') (h : H' p ≠ none) : Occ Z H' := fun z hz e => by
  by_cases hzp : z = p
  · exact h (hzp ▸ e)
  · cases q : H z with
    | none => exact o z hz q
    | some u => rw [s.1 z u hzp q] at e; cases e
end
/-! ### steps on the plain heap -/
section
variable {K : PySem.W.Frag} {p : Addr} {H H' : Hp} {σ : L2.St} {te : TE} {tt : TT} {d : PyData} {b : Bool} {Q : VK} {D : Ends} {i : Nat} {t u rest : TS}
theorem ev0 (h : Ev K [] te σ H d) (q : ∀ v H2, Same H H2 → Dx K H2 v d → Q v H2) : te σ H Q := h H (by rw [hid_nil]; exact Same.refl _) Occ.nil Q fun v H2 s dv => q v H2 s (by rw [hid_nil] at dv; exact dv)
theorem an0 {Qb : Bool → Hp → Prop} (h : An [] tt σ H b) (q : ∀ H2, Same H H2 → Qb b H2) : tt σ H Qb := h H (by rw [hid_nil]; exact Same.refl _) Occ.nil Qb q
theorem set0 (h : Ev K [] te σ H d) (q : ∀ v H2, Same H H2 → Dx K H2 v d → D.nx (σ.set i (some v)) H2) : tAsg te (gName i) D σ H := ev0 h q
theorem ret0 (h : Ev K [] te σ H d) (q : ∀ v H2, Same H H2 → Dx K H2 v d → D.rt v H2) : tRet te D σ H := ev0 h q
theorem if0 (h : An [] tt σ H b) (h1 : b = true → ∀ H2, Same H H2 → t D σ H2) (h2 : b = false → ∀ H2, Same H H2 → u D σ H2) : tIfS tt t u D σ H := an0 h fun H2 s => by
  cases b with
  | true => exact iteT (h1 rfl H2 s)
  | false => exact iteF (h2 rfl H2 s)
/-- pen[1] = x, pen[2] = x -/
theorem pen_set {cells : List Int} {a r x y a' r' : Int} {j : Nat} (hp : σ[i]? = some (some (.ref p))) (P : Pn K p cells a r H) (h : Ev K [] te σ H (.int x)) (hj : (j = 1 ∧ y = 1 ∧ a' = x ∧ r' = r) ∨ (j = 2 ∧ y = 2 ∧ a' = a ∧ r' = x))
    (q : ∀ H', SB p H H' → Pn K p cells a' r' H' → D.nx σ H') : tAsg te (gSub (tVar i) (tC (.int y)) rSetL) D σ H := ev0 h fun v H2 s dv => by
  obtain ⟨w, e, dw⟩ := P
  have e2 := s _ _ e
  have keep : ∀ (l : List V), Same (hid [p] H2) (hid [p] (upd H2 p (.lst l))) := fun l => same_but fun b u hb e => by
    rw [upd_ne fun z => hb (by rw [z]; exact List.mem_singleton_self _)]; exact e
  rcases hj with ⟨rfl, rfl, rfl, rfl⟩ | ⟨rfl, rfl, rfl, rfl⟩
  · refine ⟨.ref p, hp, p, _, 1, 1, rfl, rfl, e2, by simp [ixN], q _ (.trans (.of s) (SB.pen e2)) ⟨w, ?_, Dx.same ((same_hid s).trans (keep _)) _ _ dw⟩⟩
    rw [upd_same, dv.int_inv]
    rfl
  · refine ⟨.ref p, hp, p, _, 2, 2, rfl, rfl, e2, by simp [ixN], q _ (.trans (.of s) (SB.pen e2)) ⟨w, ?_, Dx.same ((same_hid s).trans (keep _)) _ _ dw⟩⟩
    rw [upd_same, dv.int_inv]
    rfl
theorem rc_int {j : Int} : RdC K (fun xs H Q => (∃ i, xs = [.int i] ∧ Q (.int i) H) ∨ ∃ k, xs = [.bl k] ∧ Q (.int (if k then 1 else 0)) H) [.int j] (.int j) := fun Z vs H o h Q q => by
  cases h with
  | cons h1 h2 =>
    cases h2
    rw [h1.int_inv]
    exact .inl ⟨j, rfl, q _ H (Same.refl _) (.int _)⟩
theorem rc_intB {k : Bool} : RdC K (fun xs H Q => (∃ i, xs = [.int i] ∧ Q (.int i) H) ∨ ∃ k, xs = [.bl k] ∧ Q (.int (if k then 1 else 0)) H) [.bool k] (.int (if k then 1 else 0)) := fun Z vs H o h Q q => by
  cases h with
  | cons h1 h2 =>
    cases h2
    rw [h1.bl_inv]
    exact .inr ⟨k, rfl, q _ H (Same.refl _) (.int _)⟩
theorem rc_abs {j : Int} : RdC K (fun xs H Q => ∃ i, xs = [.int i] ∧ Q (.int (if i < 0 then -i else i)) H) [.int j] (.int (if j < 0 then -j else j)) := fun Z vs H o h Q q => by
  cases h with
  | cons h1 h2 =>
    cases h2
    rw [h1.int_inv]
    exact ⟨j, rfl, q _ H (Same.refl _) (.int _)⟩
end
/-- what _law_draw promises -/
def spDraw (K : PySem.W.Frag) : Sp := fun vs H Q _ => ∃ (p : Addr) (n : Nat) (m : Int), vs = [.ref p, .int m] ∧ 0 < m ∧ m < 1000000 ∧ n < 1048576 ∧ Pen K p n H ∧ ∀ r H', 0 ≤ r → r < m → SB p H H' → Pen K p (n + 1) H' → Q (.int r) H'
end L2
/-! LI: expressions that draw: any result that R lets; budgets n (before) and n' (behind). -/
namespace L2
open PySem PySem.Spec PyProof.Rows
section
variable (K : PySem.W.Frag) (Z : List Addr) (p : Addr) (n n' : Nat)
def IE (te : TE) (σ : L2.St) (G : Hp) (R : PyData → Prop) : Prop := ∀ H1, Same G (hid Z H1) → Occ Z H1 → Pen K p n H1 → ∀ Q : VK, (∀ d v H2, R d → SB p H1 H2 → Pen K p n' H2 → Dx K (hid Z H2) v d → Q v H2) → te σ H1 Q
def IA (ta : TA) (σ : L2.St) (G : Hp) (R : List PyData → Prop) : Prop := ∀ H1, Same G (hid Z H1) → Occ Z H1 → Pen K p n H1 → ∀ Q : List V → Hp → Prop, (∀ ds vs H2, R ds → SB p H1 H2 → Pen K p n' H2 → DxAll K (hid Z H2) vs ds → Q vs H2) → ta σ H1 Q
def IN (t : TT) (σ : L2.St) (G : Hp) (R : Bool → Prop) : Prop := ∀ H1, Same G (hid Z H1) → Occ Z H1 → Pen K p n H1 → ∀ Q : Bool → Hp → Prop, (∀ b H2, R b → SB p H1 H2 → Pen K p n' H2 → Q b H2) → t σ H1 Q
def IS (t : TS) (σ : L2.St) (G : Hp) (R : PyData → Prop) : Prop := ∀ H1, Same G (hid Z H1) → Occ Z H1 → Pen K p n H1 → ∀ D : Ends, (∀ d v H2, R d → SB p H1 H2 → Pen K p n' H2 → Dx K (hid Z H2) v d → D.rt v H2) → t D σ H1
def IW (wi : TI) (σ : L2.St) (G : Hp) (RI : List PyData → Prop) : Prop := ∀ H1, Same G (hid Z H1) → Occ Z H1 → Pen K p n H1 → ∀ R : It → Hp → Prop,
  (∀ (items : List PyData) (J : It) (H2 : Hp) (Gd : Hp → Prop) (Y : Nat → Hp → V → Hp → Prop), RI items → SB p H1 H2 → Pen K p n' H2 → Walk J items.length Gd Y → (∀ H3, Same (hid Z H2) (hid Z H3) → Gd H3) →
    (∀ i H3 x H4, i < items.length → Same (hid Z H2) (hid Z H3) → Y i H3 x H4 → Same H3 H4 ∧ ∃ d, items[i]? = some d ∧ ∀ Z', Same (hid Z H2) (hid Z' H3) → Occ Z' H3 → Dx K (hid Z' H4) x d) → R J H2) → wi σ H1 R
end
section
variable {K : PySem.W.Frag} {Z : List Addr} {p : Addr} {n n1 n2 n3 k L : Nat} {σ : L2.St} {G : Hp} {d : PyData} {ds items : List PyData} {te ta tb : TE} {tas : TA} {t u : TT} {ts t1 t2 rest : TS} {R R1 RB2 : PyData → Prop} {RA : List PyData → Prop} {i j : Nat} {b : Bool}
theorem occ_step {H1 H2 : Hp} (o : Occ Z H1) (s : SB p H1 H2) (h : Pen K p n H2) : Occ Z H2 := o.sb s h.there
theorem ie_ev (h : Ev K Z te σ G d) : IE K Z p n n te σ G (fun x => x = d) := fun H1 s o P Q q => h H1 s o Q fun v H2 s2 dv => q d v H2 rfl (.of s2) (P.same s2) dv
theorem IE.le (h : IE K Z p n n1 te σ G R) (hn : n1 ≤ n2) : IE K Z p n n2 te σ G R := fun H1 s o P Q q => h H1 s o P Q fun d v H2 r s2 P2 dv => q d v H2 r s2 (P2.le hn) dv
theorem IE.imp (h : IE K Z p n n1 te σ G R) (hr : ∀ d, R d → R1 d) : IE K Z p n n1 te σ G R1 := fun H1 s o P Q q => h H1 s o P Q fun d v H2 r => q d v H2 (hr d r)
theorem IE.mono {G' : Hp} (h : IE K Z p n n1 te σ G R) (s : Same G G') : IE K Z p n n1 te σ G' R := fun H1 s1 o P Q q => h H1 (s.trans s1) o P Q q
theorem ia_nil : IA K Z p n n tNil σ G (fun x => x = []) := fun H1 s o P Q q => q [] [] H1 rfl .refl P .nil
theorem ia_cons (hp : p ∈ Z) (h : IE K Z p n n1 te σ G R1) (ht : IA K Z p n1 n2 tas σ G RA) : IA K Z p n n2 (tCons te tas) σ G (fun x => ∃ d ds, x = d :: ds ∧ R1 d ∧ RA ds) := fun H1 s o P Q q => h H1 s o P _ fun d v H2 r s2 P2 dv =>
  ht H2 (s.trans (s2.hid hp)) (occ_step o s2 P2) P2 _ fun ds vs H3 ra s3 P3 dvs => q (d :: ds) (v :: vs) H3 ⟨d, ds, rfl, r, ra⟩ (s2.trans s3) P3 (.cons (Dx.same (s3.hid hp) _ _ dv) dvs)
theorem ie_tup (hp : p ∈ Z) (ha : IA K Z p n n1 tas σ G RA) (hz : ∀ ds, RA ds → ds.length ≤ 1000) : IE K Z p n n1 (tTup tas) σ G (fun d => ∃ ds, d = .tuple ds ∧ RA ds) := fun H1 s o P Q q => ha H1 s o P _ fun ds vs H2 r s2 P2 dvs =>
  ⟨by rw [dvs.length]; exact line1000 (hz ds r), fun a hpn => q _ (.ref a) _ ⟨ds, rfl, r⟩ (s2.trans (.of (same_upd hpn))) (P2.same (same_upd hpn)) (.tup (.inl (.inl (hid_upd ((occ_step o s2 P2).new hpn)))) (DxAll.same (same_hid (same_upd hpn)) _ _ dvs))⟩
theorem ie_lst (hp : p ∈ Z) (ha : IA K Z p n n1 tas σ G RA) (hz : ∀ ds, RA ds → ds.length ≤ 1000) : IE K Z p n n1 (tLst tas) σ G (fun d => ∃ ds, d = .list ds ∧ RA ds) := fun H1 s o P Q q => ha H1 s o P _ fun ds vs H2 r s2 P2 dvs =>
  ⟨by rw [dvs.length]; exact line1000 (hz ds r), fun a hpn => q _ (.ref a) _ ⟨ds, rfl, r⟩ (s2.trans (.of (same_upd hpn))) (P2.same (same_upd hpn)) (.lst ((hid_upd ((occ_step o s2 P2).new hpn))) (DxAll.same (same_hid (same_upd hpn)) _ _ dvs))⟩
theorem ie_op (hp : p ∈ Z) {r : R2} {f : PyData → PyData → PyData} (ha : IE K Z p n n1 ta σ G R1) (hb : IE K Z p n1 n2 tb σ G RB2) (hr : ∀ x y, R1 x → RB2 y → Rd2 K r x y (f x y)) : IE K Z p n n2 (tOp r ta tb) σ G (fun d => ∃ x y, R1 x ∧ RB2 y ∧ d = f x y) := fun H1 s o P Q q =>
  ha H1 s o P _ fun x v H2 r1 s2 P2 dv => hb H2 (s.trans (s2.hid hp)) (occ_step o s2 P2) P2 _ fun y w H3 r2 s3 P3 dw =>
    hr x y r1 r2 Z v w H3 (occ_step (occ_step o s2 P2) s3 P3) (Dx.same (s3.hid hp) _ _ dv) dw Q fun z H4 s4 dz => q _ z H4 ⟨x, y, r1, r2, rfl⟩ (s2.trans (s3.trans (.of s4))) (P3.same s4) dz
theorem ie_if (hp : p ∈ Z) {RB : Bool → Prop} (ht : IN K Z p n n1 t σ G RB) (h1 : RB true → IE K Z p n1 n2 ta σ G R) (h2 : RB false → IE K Z p n1 n2 tb σ G R) : IE K Z p n n2 (tIf t ta tb) σ G R := fun H1 s o P Q q => ht H1 s o P _ fun b H2 r s2 P2 => by
  cases b with
  | true => exact iteT (h1 r H2 (s.trans (s2.hid hp)) (occ_step o s2 P2) P2 _ fun d v H3 r3 s3 P3 dv => q d v H3 r3 (s2.trans s3) P3 dv)
  | false => exact iteF (h2 r H2 (s.trans (s2.hid hp)) (occ_step o s2 P2) P2 _ fun d v H3 r3 s3 P3 dv => q d v H3 r3 (s2.trans s3) P3 dv)
theorem in_an (h : An Z t σ G b) : IN K Z p n n t σ G (fun x => x = b) := fun H1 s o P Q q => h H1 s o Q fun H2 s2 => q b H2 rfl (.of s2) (P.same s2)
theorem in_test (h : IE K Z p n n1 te σ G (fun d => ∃ b, d = .bool b)) : IN K Z p n n1 (tTest te) σ G (fun _ => True) := fun H1 s o P Q q => h H1 s o P _ fun d v H2 r s2 P2 dv => by
  obtain ⟨b, rfl⟩ := r
  exact ⟨b, dv.bl_inv, q b H2 trivial s2 P2⟩
theorem in_and (hp : p ∈ Z) {RB : Bool → Prop} (h : An Z t σ G b) (h2 : b = true → IN K Z p n n1 u σ G RB) (hn : n ≤ n1) : IN K Z p n n1 (tAnd t u) σ G (fun x => x = true → b = true) := fun H1 s o P Q q => h H1 s o _ fun H2 s2 => by
  cases b with
  | true => exact iteT (h2 rfl H2 (s.trans (same_hid s2)) (o.same s2) (P.same s2) _ fun b H3 r3 s3 P3 => q b H3 (fun _ => rfl) ((SB.of s2).trans s3) P3)
  | false => exact iteF (q false H2 (fun e => e) (.of s2) ((P.same s2).le hn))
/-! ### blocks -/
theorem is_ret (h : IE K Z p n n1 te σ G R) : IS K Z p n n1 (tRet te) σ G R := fun H1 s o P D q => h H1 s o P _ q
theorem is_if (hp : p ∈ Z) (h : An Z t σ G b) (h1 : b = true → IS K Z p n n1 t1 σ G R) (h2 : b = false → IS K Z p n n1 rest σ G R) : IS K Z p n n1 (tSeq (tIfS t t1 tNext) rest) σ G R := fun H1 s o P D q => h H1 s o _ fun H2 s2 => by
  cases b with
  | true => exact iteT (h1 rfl H2 (s.trans (same_hid s2)) (o.same s2) (P.same s2) _ fun d v H3 r3 s3 P3 dv => q d v H3 r3 ((SB.of s2).trans s3) P3 dv)
  | false => exact iteF (h2 rfl H2 (s.trans (same_hid s2)) (o.same s2) (P.same s2) _ fun d v H3 r3 s3 P3 dv => q d v H3 r3 ((SB.of s2).trans s3) P3 dv)
theorem is_set (hp : p ∈ Z) (h : IE K Z p n n1 te σ G R1) (h2 : ∀ d v G', R1 d → Same G G' → Dx K G' v d → IS K Z p n1 n2 rest (σ.set i (some v)) G' R) : IS K Z p n n2 (tSeq (tAsg te (gName i)) rest) σ G R := fun H1 s o P D q =>
  h H1 s o P _ fun d v H2 r s2 P2 dv => h2 d v (hid Z H2) r (s.trans (s2.hid hp)) dv H2 (Same.refl _) (occ_step o s2 P2) P2 _ fun d v H3 r3 s3 P3 dv => q d v H3 r3 (s2.trans s3) P3 dv
theorem is_par (hp : p ∈ Z) (ha : IA K Z p n n1 tas σ G RA) (h2 : ∀ ds, RA ds → ∃ d1 d2, ds = [d1, d2] ∧ ∀ v w G', Same G G' → Dx K G' v d1 → Dx K G' w d2 → IS K Z p n1 n2 rest ((σ.set i (some v)).set j (some w)) G' R) : IS K Z p n n2 (tSeq (tPar i j tas) rest) σ G R := fun H1 s o P D q =>
  ha H1 s o P _ fun ds vs H2 r s2 P2 dvs => by
    obtain ⟨d1, d2, rfl, h⟩ := h2 ds r
    obtain ⟨v, w, rfl, dv, dw⟩ := all2 dvs
    exact ⟨v, w, rfl, h v w (hid Z H2) (s.trans (s2.hid hp)) dv dw H2 (Same.refl _) (occ_step o s2 P2) P2 _ fun d v H3 r3 s3 P3 dv => q d v H3 r3 (s2.trans s3) P3 dv⟩
/-! ### what is walked -/
theorem iw_list (hp : p ∈ Z) (h : IE K Z p n n1 te σ G (fun d => ∃ ds, d = .list ds ∧ RA ds)) : IW K Z p n n1 (iList K te) σ G RA := fun H1 s o P R q => h H1 s o P _ fun d v H2 r s2 P2 dv => by
  obtain ⟨ds, rfl, ra⟩ := r
  obtain ⟨a, xs, e1, hs, ha⟩ := dv.lst_inv
  have at_ : ∀ H3, Same (hid Z H2) (hid Z H3) → SqL K H3 a xs := fun H3 s3 => hid_sub.seq (s3.seq hs)
  refine ⟨a, e1, ⟨xs, hid_sub.seq hs⟩, q ds _ H2 _ _ ra s2 P2 (ha.length ▸ walk_list) at_ fun i H3 x H4 hi s3 y => ?_⟩
  obtain ⟨rfl, hx⟩ := y
  obtain ⟨d, hd, dd⟩ := ha.getV hx
  exact ⟨Same.refl _, d, hd, fun Z' s4 _ => Dx.same s4 _ _ dd⟩
theorem iw_rng1 (h : IA K Z p n n1 tas σ G (fun ds => ∃ m : Int, ds = [.int m] ∧ 0 ≤ m ∧ m < 1000)) : IW K Z p n n1 (iRng1 tas) σ G (fun items => ∃ m : Nat, m < 1000 ∧ items = rngD 0 m) := fun H1 s o P R q => h H1 s o P _ fun ds vs H2 r s2 P2 dvs => by
  obtain ⟨m, rfl, m0, m1⟩ := r
  obtain ⟨v, rfl, dv⟩ := all1 dvs
  refine ⟨m, by rw [dv.int_inv], by omega, by omega, q (rngD 0 m.toNat) _ H2 _ _ ⟨m.toNat, by omega, rfl⟩ s2 P2 (by rw [rngD_length]; exact walk_range) (fun _ _ => trivial) fun i H3 x H4 hi s3 y => ?_⟩
  obtain ⟨rfl, rfl⟩ := y
  rw [rngD_length] at hi
  exact ⟨Same.refl _, _, rngD_get hi, fun _ _ _ => .int _⟩
theorem iw_rng2 (h : IA K Z p n n1 tas σ G (fun ds => ∃ a b : Nat, ds = [.int a, .int b] ∧ a < 1000 ∧ b < 1000)) : IW K Z p n n1 (iRng2 tas) σ G (fun items => ∃ a b : Nat, b < 1000 ∧ items = rngD a (b - a)) := fun H1 s o P R q => h H1 s o P _ fun ds vs H2 r s2 P2 dvs => by
  obtain ⟨a, b, rfl, hab, hb⟩ := r
  obtain ⟨v, w, rfl, dv, dw⟩ := all2 dvs
  have e : ((b : Int) - a).toNat = b - a := by omega
  refine ⟨a, b, by rw [dv.int_inv, dw.int_inv], by omega, q (rngD a (b - a)) _ H2 _ _ ⟨a, b, hb, rfl⟩ s2 P2 (by rw [rngD_length, ← e]; exact walk_range) (fun _ _ => trivial) fun i H3 x H4 hi s3 y => ?_⟩
  obtain ⟨rfl, rfl⟩ := y
  rw [rngD_length] at hi
  exact ⟨Same.refl _, _, rngD_get hi, fun _ _ _ => .int _⟩
theorem pen_after {H2 H7 H8 : Hp} {m m2 : Nat} (P2 : Pen K p m H2) (s : SB p H2 H8) (e : H8 p = H7 p) (P7 : Pen K p m2 H7) : Pen K p m2 H8 := by
  obtain ⟨cs, a, r, ⟨w, e1, d1⟩, h1⟩ := P2
  obtain ⟨cs2, a2, r2, ⟨w2, e2, d2⟩, h2⟩ := P7
  obtain ⟨a3, r3, e3⟩ := s.2 _ _ _ e1
  have e4 := e3
  rw [e, e2] at e4
  cases e4
  exact ⟨cs, a2, r2, ⟨_, by rw [e]; exact e2, Dx.same (s.hid (List.mem_singleton_self _)) _ _ d1⟩, h1.1, h2.2⟩
/-- [e for target in items], e drawing -/
theorem ie_lc {wi : TI} {g : TG} {vs : List Nat} {RI : List PyData → Prop} {Re : List PyData → Nat → PyData → Prop} (hp : p ∈ Z) (hw : IW K Z p n n1 wi σ G RI) (hL : ∀ items, RI items → items.length ≤ L ∧ items.length ≤ 1000)
    (hb : ∀ (items : List PyData) (Z' : List Addr) (i : Nat) (d : PyData) (G' : Hp), RI items → p ∈ Z' → items[i]? = some d → i < L → Same G G' → EvG K Z' g d (wipe σ vs) G' fun σ2 G2 => wipe σ2 vs = wipe σ vs ∧ IE K Z' p (n1 + i * k) (n1 + (i + 1) * k) te σ2 G2 (Re items i)) :
    IE K Z p n (n1 + L * k) (tLc wi g tYes te vs) σ G (fun d => ∃ ds items, d = .list ds ∧ RI items ∧ ds.length = items.length ∧ ∀ i x, ds[i]? = some x → Re items i x) := fun H1 s o P Q q => hw H1 s o P _ fun items J H2 Gd Y ri s2 P2 W hG hY D hD => by
  have o2 : Occ Z H2 := occ_step o s2 P2
  have hDZ : D ∉ Z := o2.new hD
  have hDp : D ≠ p := fun e => hDZ (e ▸ hp)
  obtain ⟨hl1, hl2⟩ := hL items ri
  refine lc_it W (fun i H => ∃ acc ds, H D = some (.lst acc) ∧ SB p H2 H ∧ Pen K p (n1 + i * k) H ∧ ds.length = i ∧ (∀ j x, ds[j]? = some x → Re items j x) ∧ DxAll K (hid (D :: Z) H) acc ds) ⟨[], [], upd_same, .of (same_upd hD), (P2.same (same_upd hD)).le (by omega), rfl, fun j x e => by simp at e, .nil⟩
    (fun i H _ ⟨_, _, _, s3, _⟩ => hG H (s3.hid hp)) ?_ ?_
  · rintro i x H H' hlt ⟨acc, ds, hA, s3, P3, hlen, hR, ha⟩ y
    obtain ⟨s4, d, hd, dx⟩ := hY i H x H' hlt (s3.hid hp) y
    have oD : ∀ {H' : Hp}, Same H H' → Occ (D :: Z) H' := fun {H'} s5 z hz => by
      rcases List.mem_cons.mp hz with e | e
      · rw [e, s5 _ _ hA]; simp
      · exact ((occ_step o2 s3 P3).same s5) z e
    have hp' : p ∈ D :: Z := List.mem_cons_of_mem _ hp
    have sD : ∀ {H' : Hp}, Same H H' → Same (hid Z H2) (hid (D :: Z) H') := fun {H'} s5 b u e => by
      obtain ⟨e1, e2⟩ := hid_some e
      have hb : b ∉ D :: Z := fun z => (List.mem_cons.mp z).elim (fun z => by rw [z, hD] at e2; cases e2) e1
      rw [hid_out hb]; exact s5 _ _ (s3.1 _ _ (fun z => e1 (z ▸ hp)) e2)
    have sG : Same G (hid (D :: Z) H') := (s.trans (s2.hid hp)).trans (sD s4)
    refine hb items (D :: Z) i d (hid (D :: Z) H') ri hp' hd (by omega) sG x H' (Same.refl _) (oD s4) (dx _ (sD (Same.refl _)) (oD (Same.refl _))) _ fun σ2 H5 s5 ⟨hw, hE⟩ => And.intro hw ?_
    unfold tYes
    show (if true = true then _ else _)
    rw [if_pos rfl]
    refine hE H5 (Same.refl _) (oD (s4.trans s5)) (P3.same (s4.trans s5)) _ fun e v H7 re s7 P7 dv => ?_
    have s8 : SB p H H7 := (SB.of (s4.trans s5)).trans s7
    have s37 : SB p H2 (upd H7 D (.lst (acc ++ [v]))) := ⟨fun b u n e => by
      by_cases hbD : b = D
      · rw [hbD, hD] at e; cases e
      · rw [upd_ne hbD]; exact s8.1 _ _ n (s3.1 _ _ n e), fun w a r e => by
        rw [upd_ne fun z => hDp z.symm]
        exact (s3.trans s8).2 w a r e⟩
    refine ⟨acc, s8.1 _ _ hDp hA, ?_, acc ++ [v], ds ++ [e], upd_same, s37, ?_, ?_, ?_, ?_⟩
    · rw [ha.length, hlen, sizeLine_eq]; omega
    · exact pen_after P2 s37 (by rw [upd_ne fun z => hDp z.symm]) P7
    · rw [List.length_append, hlen]; rfl
    · intro j x ej
      by_cases hj : j < ds.length
      · rw [List.getElem?_append_left hj] at ej; exact hR j x ej
      · have : j = ds.length := by
          have := (List.getElem?_eq_some_iff.mp ej).1
          rw [List.length_append, List.length_singleton] at this; omega
        subst this
        rw [List.getElem?_append_right (Nat.le_refl _), Nat.sub_self] at ej
        cases ej
        rw [hlen]; exact re
    · have keep : Same (hid (D :: Z) H7) (hid (D :: Z) (upd H7 D (.lst (acc ++ [v])))) := same_but fun b u hb e => by
        rw [upd_ne fun z => hb (by rw [z]; exact List.mem_cons_self)]; exact e
      exact (DxAll.same ((s8.hid hp').trans keep) _ _ ha).snoc (Dx.same keep _ _ dv)
  · rintro H ⟨acc, ds, hA, s3, P3, hlen, hR, ha⟩
    refine q _ _ H ⟨ds, items, rfl, ri, hlen, hR⟩ (s2.trans s3) (P3.le ?_) (.lst ((by rw [hid_out hDZ]; exact hA)) (DxAll.same (hid_less fun b hb => List.mem_cons_of_mem _ hb) _ _ ha))
    exact Nat.add_le_add_left (Nat.mul_le_mul_right _ hl1) _
end
end L2
namespace L2
open PySem PySem.Spec PyProof.Rows
/-- what _law_pick promises: any of the list's items -/
def spPick (K : PySem.W.Frag) : Sp := fun vs H Q _ => ∃ (p a : Addr) (n : Nat) (xs : List V), vs = [.ref p, .ref a] ∧ SqL K (hid [p] H) a xs ∧ xs ≠ [] ∧ xs.length < 100000 ∧ n < 1048576 ∧ Pen K p n H ∧ ∀ x H', x ∈ xs → SB p H H' → Pen K p (n + 1) H' → Q x H'
/-- a def that draws: the pen first, then data -/
def spI (K : PySem.W.Frag) (k : Nat) (Pr : List PyData → Prop) (R : List PyData → PyData → Prop) : Sp := fun vs H Q _ => ∃ (Z : List Addr) (p : Addr) (n : Nat) (us : List V) (ds : List PyData), vs = .ref p :: us ∧ p ∈ Z ∧ Occ Z H ∧ DxAll K (hid Z H) us ds ∧ Pr ds ∧ n + k < 1048576 ∧ Pen K p n H ∧
  ∀ d v H', R ds d → SB p H H' → Pen K p (n + k) H' → Dx K (hid Z H') v d → Q v H'
section
variable {K : PySem.W.Frag} {Z : List Addr} {p : Addr} {n n1 n2 n3 k L : Nat} {σ : L2.St} {G : Hp} {d : PyData} {ds items : List PyData} {te ta tb : TE} {tas : TA} {t u : TT} {ts t1 t2 rest : TS} {R R1 RB2 : PyData → Prop} {RA : List PyData → Prop} {i j : Nat} {b : Bool} {E : XK} {m : Int}
theorem ie_draw (hp : p ∈ Z) (hv : σ[i]? = some (some (.ref p))) (h : IE K Z p n n1 te σ G (fun d => ∃ m : Int, d = .int m ∧ 0 < m ∧ m < 1000000 ∧ R (.int m))) (hn : n1 < 1048576) : IE K Z p n (n1 + 1) (tCall (spDraw K) [] E (tCons (tVar i) (tCons te tNil))) σ G (fun d => ∃ r m : Int, d = .int r ∧ R (.int m) ∧ 0 ≤ r ∧ r < m) := fun H1 s o P Q q =>
  ⟨.ref p, hv, h H1 s o P _ fun d v H2 r s2 P2 dv => by
    obtain ⟨m, rfl, m0, m1, hr⟩ := r
    rw [dv.int_inv]
    exact ⟨p, n1, m, rfl, m0, m1, hn, P2, fun r H3 r0 r1 s3 P3 => q _ _ H3 ⟨r, m, rfl, hr, r0, r1⟩ (s2.trans s3) P3 (.int r)⟩⟩
/-- with a known bound -/
theorem ie_drawK (hp : p ∈ Z) (hv : σ[i]? = some (some (.ref p))) (h : Ev K Z te σ G (.int m)) (m0 : 0 < m) (m1 : m < 1000000) (hn : n < 1048576) : IE K Z p n (n + 1) (tCall (spDraw K) [] E (tCons (tVar i) (tCons te tNil))) σ G (fun d => ∃ r : Int, d = .int r ∧ 0 ≤ r ∧ r < m) := fun H1 s o P Q q =>
  ⟨.ref p, hv, h H1 s o _ fun v H2 s2 dv => by
    rw [dv.int_inv]
    exact ⟨p, n, m, rfl, m0, m1, hn, P.same s2, fun r H3 r0 r1 s3 P3 => q _ _ H3 ⟨r, rfl, r0, r1⟩ ((SB.of s2).trans s3) P3 (.int r)⟩⟩
theorem ie_pick (hp : p ∈ Z) (hv : σ[i]? = some (some (.ref p))) (h : IE K Z p n n1 te σ G (fun d => ∃ ds, d = .list ds ∧ RA ds)) (hr : ∀ ds, RA ds → ds ≠ [] ∧ ds.length < 100000) (hn : n1 < 1048576) : IE K Z p n (n1 + 1) (tCall (spPick K) [] E (tCons (tVar i) (tCons te tNil))) σ G (fun d => ∃ ds, RA ds ∧ d ∈ ds) := fun H1 s o P Q q =>
  ⟨.ref p, hv, h H1 s o P _ fun d v H2 r s2 P2 dv => by
    obtain ⟨ds, rfl, ra⟩ := r
    obtain ⟨a, xs, rfl, hs, ha⟩ := dv.lst_inv
    have hl := ha.length
    have hless : Same (hid Z H2) (hid [p] H2) := hid_less fun b hb => (List.mem_singleton.mp hb) ▸ hp
    refine ⟨p, a, n1, xs, rfl, hless.seq hs, fun e => (hr ds ra).1 (List.eq_nil_of_length_eq_zero (by rw [← hl, e]; rfl)), by have := (hr ds ra).2; omega, hn, P2, fun x H3 hx s3 P3 => ?_⟩
    obtain ⟨j, hj, e⟩ := List.mem_iff_getElem.mp hx
    obtain ⟨d, hd, dd⟩ := ha.getV (by rw [List.getElem?_eq_getElem hj, e] : xs[j]? = some x)
    exact q d x H3 ⟨ds, ra, List.mem_of_getElem? hd⟩ (s2.trans s3) P3 (Dx.same (s3.hid hp) _ _ dd)⟩
theorem ie_call {Pr : List PyData → Prop} {Rf : List PyData → PyData → Prop} (hp : p ∈ Z) (hv : σ[i]? = some (some (.ref p))) (h : IA K Z p n n1 tas σ G RA) (hr : ∀ ds, RA ds → Pr ds) (hn : n1 + k < 1048576) : IE K Z p n (n1 + k) (tCall (spI K k Pr Rf) [] E (tCons (tVar i) tas)) σ G (fun d => ∃ ds, RA ds ∧ Rf ds d) := fun H1 s o P Q q =>
  ⟨.ref p, hv, h H1 s o P _ fun ds vs H2 r s2 P2 dvs => by
    exact ⟨Z, p, n1, vs, ds, by rw [List.append_nil], hp, occ_step o s2 P2, dvs, hr ds r, hn, P2, fun d v H3 r3 s3 P3 dv => q d v H3 ⟨ds, r, r3⟩ (s2.trans s3) P3 dv⟩⟩
end
section
variable {P : Program} {w : World} {K : PySem.W.Frag} {mg : Str → Option Value} {base : Heap}
theorem df_i {x : Str} {st : Stmt} {N ps : List Str} {k k' : Nat} {Pr : List PyData → Prop} {R : List PyData → PyData → Prop} (A0 : At K mg x st ps) (S : FnScope N ps (defScope st)) (hl : ∀ ds, Pr ds → ds.length + 1 = ps.length)
    (hbody : ∀ (f : Addr) (cdv : Value) (A : Around) (outer : List Env) (s : Shared) (H : Hp) (E : XK), Room k (A.deeper (envOfC x (defScope st) s.heap.objs.size f cdv)) →
      ∃ t, PSs (cxOf CX0 P w K mg base N x (defScope st) f cdv A outer s H E).nox (defBody st) t ∧ ∀ (Z : List Addr) (G : Hp) (p : Addr) (n : Nat) (us : List V) (ds : List PyData), p ∈ Z → DxAll K G us ds → Pr ds → n + k' < 1048576 → IS K Z p n (n + k') t (start N (.ref p :: us)) G (R ds)) :
    Df P w K mg base x (k + 1) ps (spI K k' Pr R) := by
  obtain ⟨f, fd, g, F, b⟩ := A0.ex
  refine ⟨f, fd, g, F.kp, b, F.ok S (fun vs H Q E h => ?_) (fun cdv A outer s H vs Q E hr h => ?_)⟩
  · obtain ⟨Z, p, n, us, ds, rfl, _, _, dv, hp, _⟩ := h
    rw [List.length_cons, dv.length]; exact hl ds hp
  · obtain ⟨t, ht, hs⟩ := hbody f cdv A outer s H E hr
    obtain ⟨Z, p, n, us, ds, rfl, hpz, o, dv, hp, hn, Pp, q⟩ := h
    exact ⟨t, ht, hs Z (hid Z H) p n us ds hpz dv hp hn H (Same.refl _) o Pp _ fun d v H2 r s2 P2 dd => q d v H2 r s2 P2 dd⟩
end
end L2
namespace L2
open PySem PySem.Spec PyProof.Rows
section
variable {K : PySem.W.Frag} {Z : List Addr} {p : Addr} {n n1 n2 n3 k L : Nat} {σ : L2.St} {G : Hp} {d : PyData} {ds es items : List PyData} {te ta tb : TE} {tas : TA} {i j : Nat} {b : Bool} {E : XK} {m : Int} {R : PyData → Prop}
theorem rd_cat (h : ds.length + es.length ≤ 1000) : Rd2 K rCat (.list ds) (.list es) (.list (ds ++ es)) := fun Z v u H o dv du Q q => by
  obtain ⟨a, xs, rfl, ha, hx⟩ := dv.lst_at
  obtain ⟨b, ys, rfl, hb, hy⟩ := du.lst_at
  exact ⟨a, b, xs, ys, rfl, rfl, hid_sub _ _ ha, hid_sub _ _ hb, by rw [hx.length, hy.length]; exact line1000 h, fun c hc => q _ _ (same_upd hc) (.lst (hid_upd (o.new hc)) ((DxAll.same (same_hid (same_upd hc)) _ _ hx).append (DxAll.same (same_hid (same_upd hc)) _ _ hy)))⟩
theorem DxAll.rep {H : Hp} {xs : List V} (h : DxAll K H xs ds) : ∀ m : Nat, DxAll K H (List.replicate m xs).flatten (List.replicate m ds).flatten
  | 0 => .nil
  | m + 1 => by
    rw [List.replicate_succ, List.replicate_succ, List.flatten_cons, List.flatten_cons]
    exact h.append (DxAll.rep h m)
theorem rd_rep {m : Nat} (hm : m ≤ 1000) (h : ds.length * m ≤ 1000) : Rd2 K rRep (.list ds) (.int m) (.list (List.replicate m ds).flatten) := fun Z v u H o dv du Q q => by
  obtain ⟨a, xs, rfl, ha, hx⟩ := dv.lst_at
  refine ⟨a, m, xs, rfl, du.int_inv, hid_sub _ _ ha, by omega, by omega, by rw [hx.length, Int.toNat_natCast]; exact line1000 h, fun c hc => q _ _ (same_upd hc) (.lst (hid_upd (o.new hc)) ?_)⟩
  rw [Int.toNat_natCast]
  exact DxAll.same (same_hid (same_upd hc)) _ _ (hx.rep m)
theorem ie_pickK (hp : p ∈ Z) (hv : σ[i]? = some (some (.ref p))) (h : Ev K Z te σ G (.list ds)) (hne : ds ≠ []) (hl : ds.length < 100000) (hn : n < 1048576) : IE K Z p n (n + 1) (tCall (spPick K) [] E (tCons (tVar i) (tCons te tNil))) σ G (fun d => d ∈ ds) :=
  (ie_pick (RA := fun x => x = ds) hp hv ((ie_ev h).imp fun d e => ⟨ds, e, rfl⟩) (fun x e => by rw [e]; exact ⟨hne, hl⟩) hn).imp fun d ⟨x, e, hd⟩ => e ▸ hd
theorem iw_rngC {m : Nat} (h : EvA K Z tas σ G [.int m]) (hm : m < 1000) : IW K Z p n n (iRng1 tas) σ G (fun items => items = rngD 0 m) := fun H1 s o P R q => h H1 s o _ fun vs H2 s2 dvs => by
  obtain ⟨v, rfl, dv⟩ := all1 dvs
  refine ⟨m, by rw [dv.int_inv], by omega, by omega, q (rngD 0 m) _ H2 _ _ rfl (.of s2) (P.same s2) (by rw [rngD_length, ← Int.toNat_natCast m]; exact walk_range) (fun _ _ => trivial) fun i H3 x H4 hi s3 y => ?_⟩
  obtain ⟨rfl, rfl⟩ := y
  rw [rngD_length] at hi
  exact ⟨Same.refl _, _, rngD_get hi, fun _ _ _ => .int _⟩
theorem atI_3 {α : Type} {c d e f : α} {r : List α} : atI (c :: d :: e :: f :: r) 3 = some f := by
  have h : (3 : Int) < (r.length : Int) + 1 + 1 + 1 + 1 := by omega
  simp [atI, ixN, h]
end
end L2
namespace L2
open PySem PySem.Spec PyProof.Rows
section
variable {K : PySem.W.Frag} {Z : List Addr} {p : Addr} {n n1 n2 n3 k L : Nat} {σ : L2.St} {G : Hp} {d : PyData} {ds es items : List PyData} {te ta tb : TE} {tas : TA} {i j : Nat} {b : Bool} {E : XK} {m : Int} {R : PyData → Prop} {RN : Nat → Prop}
theorem cut_take {k : Nat} : L2.cutD ds none (some (k : Int)) = ds.take k := by
  unfold L2.cutD
  rw [HT.sIx_nat, HT.sIx_none, List.drop_zero, Nat.sub_zero]
  by_cases h : k ≤ ds.length
  · rw [Nat.min_eq_left h]
  · rw [Nat.min_eq_right (by omega), List.take_length, List.take_of_length_le (by omega)]
theorem ie_slL (hp : p ∈ Z) (h : Ev K Z te σ G (.list ds)) (hh : IE K Z p n n1 tb σ G (fun d => ∃ r : Nat, d = .int r ∧ RN r)) : IE K Z p n n1 (tSl (rSlL K) te tNoPart (tPart tb)) σ G (fun d => ∃ r, RN r ∧ d = .list (ds.take r)) := fun H1 s o P Q q => h H1 s o _ fun v H2 s2 dv =>
  hh H2 (s.trans (same_hid s2)) (o.same s2) (P.same s2) _ fun d u H3 r s3 P3 du => by
    obtain ⟨r, rfl, hr⟩ := r
    have dv3 := Dx.same (s3.hid hp) _ _ dv
    obtain ⟨a, xs, rfl, hs, ha⟩ := dv3.lst_inv
    refine ⟨r, du.int_inv, a, xs, rfl, hid_sub.seq hs, fun c hc => ?_⟩
    have o3 := occ_step (o.same s2) s3 P3
    refine q _ _ _ ⟨r, hr, rfl⟩ (((SB.of s2).trans s3).trans (.of (same_upd hc))) (P3.same (same_upd hc)) (.lst (hid_upd (o3.new hc)) ?_)
    have := DxAll.same (same_hid (Z := Z) (same_upd (o := .lst (cutV xs none (some (r : Int)))) hc)) _ _ (ha.cut none (some (r : Int)))
    rwa [cut_take] at this
theorem IA.imp {RA RA' : List PyData → Prop} (h : IA K Z p n n1 tas σ G RA) (hr : ∀ ds, RA ds → RA' ds) : IA K Z p n n1 tas σ G RA' := fun H1 s o P Q q => h H1 s o P Q fun ds vs H2 r => q ds vs H2 (hr ds r)
theorem ia_ev (h : EvA K Z tas σ G ds) : IA K Z p n n tas σ G (fun x => x = ds) := fun H1 s o P Q q => h H1 s o Q fun vs H2 s2 dvs => q ds vs H2 rfl (.of s2) (P.same s2) dvs
theorem IN.le {t : TT} {RB : Bool → Prop} (h : IN K Z p n n1 t σ G RB) (hn : n1 ≤ n2) : IN K Z p n n2 t σ G RB := fun H1 s o P Q q => h H1 s o P Q fun b H2 r s2 P2 => q b H2 r s2 (P2.le hn)
/-- l.append(e), l hidden -/
theorem append_cps {F : Addr} {xs : List V} {D : Ends} {H : Hp} (hF : σ[i]? = some (some (.ref F))) (hx : H F = some (.lst xs)) (he : te σ H fun u H2 => rAppend (.ref F) [u] H2 fun _ H3 => D.nx σ H3) :
    tDrop (tBM K "list" rAppend (tVar i) (tCons te tNil)) D σ H :=
  ⟨.ref F, hF, .inl ⟨rfl, xs, .inl (.inl hx)⟩, he⟩
theorem app_of {F : Addr} {xs : List V} {u : V} {H : Hp} {Q : VK} (hx : H F = some (.lst xs)) (hl : xs.length < 1000) (q : Q .non (upd H F (.lst (xs ++ [u])))) : rAppend (.ref F) [u] H Q := ⟨F, xs, u, rfl, rfl, hx, by rw [sizeLine_eq]; omega, q⟩
end
end L2
namespace L2
open PySem PySem.Spec PyProof.Rows
theorem seq_for {wi : TI} {g : TG} {tb rest : TS} {D : Ends} {σ : L2.St} {H : Hp} (h : tFor wi g tb { D with nx := rest D } σ H) : tSeq (tFor wi g tb) rest D σ H := h
theorem for_cps {wi : TI} {g : TG} {tb : TS} {D : Ends} {σ : L2.St} {H : Hp} (h : wi σ H fun J H1 => ∃ W : Nat → Nat → L2.St → Hp → Prop, (∃ m, W 0 m σ H1) ∧ ∀ i m σ H, W i m σ H →
    (J.stop i H ∧ D.nx σ H) ∨ (J.go i H ∧ ∃ N : L2.St → Hp → Prop, (∀ σ' H', N σ' H' → ∃ m', m' < m ∧ W (i + 1) m' σ' H') ∧ ∀ x H', J.yld i H x H' → g x σ H' fun σ2 H2 => tb { D with nx := N, ct := N, bk := D.nx } σ2 H2)) : tFor wi g tb D σ H := h
end L2
namespace L2
open PySem PySem.Spec PyProof.Rows
theorem nx_of {f : L2.St → Hp → Prop} {rt : VK} {bk ct : L2.St → Hp → Prop} {σ : L2.St} {H : Hp} (h : f σ H) : Ends.nx ⟨f, rt, bk, ct⟩ σ H := h
end L2
namespace L2
open PySem PySem.Spec PyProof.Rows
section
variable {K : PySem.W.Frag} {Z : List Addr} {p : Addr} {n n1 n2 : Nat} {σ : L2.St} {H : Hp} {d : PyData} {te : TE} {tt : TT} {i : Nat} {b : Bool} {R : PyData → Prop} {rest t u : TS} {D : Ends}
theorem ie_setC (o : Occ Z H) (P : Pen K p n H) (h : IE K Z p n n1 te σ (hid Z H) R) (q : ∀ d v H2, R d → SB p H H2 → Pen K p n1 H2 → Dx K (hid Z H2) v d → rest D (σ.set i (some v)) H2) : tSeq (tAsg te (gName i)) rest D σ H := h H (Same.refl _) o P _ q
theorem ev_setC (o : Occ Z H) (h : Ev K Z te σ (hid Z H) d) (q : ∀ v H2, Same H H2 → Dx K (hid Z H2) v d → rest D (σ.set i (some v)) H2) : tSeq (tAsg te (gName i)) rest D σ H := h H (Same.refl _) o _ q
theorem ev_setE (o : Occ Z H) (h : Ev K Z te σ (hid Z H) d) (q : ∀ v H2, Same H H2 → Dx K (hid Z H2) v d → D.nx (σ.set i (some v)) H2) : tAsg te (gName i) D σ H := h H (Same.refl _) o _ q
theorem an_ifC (o : Occ Z H) (h : An Z tt σ (hid Z H) b) (h1 : b = true → ∀ H2, Same H H2 → t D σ H2) (h2 : b = false → ∀ H2, Same H H2 → u D σ H2) : tIfS tt t u D σ H := h H (Same.refl _) o _ fun H2 s => by
  cases b with
  | true => exact iteT (h1 rfl H2 s)
  | false => exact iteF (h2 rfl H2 s)
theorem an_ifS (o : Occ Z H) (h : An Z tt σ (hid Z H) b) (h1 : b = true → ∀ H2, Same H H2 → t { D with nx := rest D } σ H2) (h2 : b = false → ∀ H2, Same H H2 → u { D with nx := rest D } σ H2) : tSeq (tIfS tt t u) rest D σ H := an_ifC o h h1 h2
theorem app_setC {F : Addr} {xs : List V} (hF : σ[i]? = some (some (.ref F))) (hx : H F = some (.lst xs)) (hl : xs.length < 1000) (o : Occ Z H) (h : Ev K Z te σ (hid Z H) d) (q : ∀ v H2, Same H H2 → Dx K (hid Z H2) v d → rest D σ (upd H2 F (.lst (xs ++ [v])))) :
    tSeq (tDrop (tBM K "list" rAppend (tVar i) (tCons te tNil))) rest D σ H :=
  append_cps (D := { D with nx := rest D }) hF hx (h H (Same.refl _) o _ fun v H2 s dv => app_of (s _ _ hx) hl (q v H2 s dv))
theorem an_nextC (h : D.nx σ H) : tNext D σ H := h
theorem ret_ev (o : Occ Z H) (h : Ev K Z te σ (hid Z H) d) (q : ∀ v H2, Same H H2 → Dx K (hid Z H2) v d → D.rt v H2) : tRet te D σ H := h H (Same.refl _) o _ q
end
end L2
namespace L2
open PySem PySem.Spec PyProof.Rows
theorem iw_rngL {K : PySem.W.Frag} {Z : List Addr} {p : Addr} {n n1 L : Nat} {σ : L2.St} {G : Hp} {tas : TA} (hL : L < 1000) (h : IA K Z p n n1 tas σ G (fun ds => ∃ q : Nat, ds = [.int q] ∧ q ≤ L)) : IW K Z p n n1 (iRng1 tas) σ G (fun items => ∃ q : Nat, q ≤ L ∧ items = rngD 0 q) := fun H1 s o P R q => h H1 s o P _ fun ds vs H2 r s2 P2 dvs => by
  obtain ⟨m, rfl, hm⟩ := r
  obtain ⟨v, rfl, dv⟩ := all1 dvs
  refine ⟨m, by rw [dv.int_inv], by omega, by omega, q (rngD 0 m) _ H2 _ _ ⟨m, hm, rfl⟩ s2 P2 (by rw [rngD_length, ← Int.toNat_natCast m]; exact walk_range) (fun _ _ => trivial) fun i H3 x H4 hi s3 y => ?_⟩
  obtain ⟨rfl, rfl⟩ := y
  rw [rngD_length] at hi
  exact ⟨Same.refl _, _, rngD_get hi, fun _ _ _ => .int _⟩
end L2
namespace L2
open PySem PySem.Spec PyProof.Rows
section
variable {K : PySem.W.Frag} {Z : List Addr} {p : Addr} {n n1 n2 : Nat} {σ : L2.St} {H : Hp} {d : PyData} {te : TE} {tt : TT} {i j k : Nat} {b : Bool} {R : PyData → Prop} {R3 : PyData → PyData → PyData → Prop} {rest t u : TS} {D : Ends}
/-- a, b, c = e -/
theorem ie_set3C (hp : p ∈ Z) (o : Occ Z H) (P : Pen K p n H) (h : IE K Z p n n1 te σ (hid Z H) (fun d => ∃ x y z, d = .tuple [x, y, z] ∧ R3 x y z)) (q : ∀ x y z v1 v2 v3 H2, R3 x y z → SB p H H2 → Pen K p n1 H2 → Dx K (hid Z H2) v1 x → Dx K (hid Z H2) v2 y → Dx K (hid Z H2) v3 z → rest D (((σ.set i (some v1)).set j (some v2)).set k (some v3)) H2) :
    tSeq (tAsg te (gTup K 3 (gCons (gName i) (gCons (gName j) (gCons (gName k) gNil))))) rest D σ H := h H (Same.refl _) o P _ fun d v H2 r s2 P2 dv => by
  obtain ⟨x, y, z, rfl, r3⟩ := r
  obtain ⟨a, xs, rfl, hs, ha⟩ := dv.tup_inv
  obtain ⟨v1, v2, v3, rfl, d1, d2, d3⟩ := all3 ha
  exact ⟨a, _, rfl, same_t hid_sub hs, rfl, _, _, rfl, _, _, rfl, _, _, rfl, rfl, q x y z v1 v2 v3 H2 r3 s2 P2 d1 d2 d3⟩
theorem app_endI {F : Addr} {xs : List V} (hF : σ[i]? = some (some (.ref F))) (hFp : F ≠ p) (hx : H F = some (.lst xs)) (hl : xs.length < 1000) (o : Occ Z H) (P : Pen K p n H) (h : IE K Z p n n1 te σ (hid Z H) R) (q : ∀ d v H2, R d → SB p H H2 → Pen K p n1 H2 → Dx K (hid Z H2) v d → D.nx σ (upd H2 F (.lst (xs ++ [v])))) :
    tDrop (tBM K "list" rAppend (tVar i) (tCons te tNil)) D σ H :=
  append_cps hF hx (h H (Same.refl _) o P _ fun d v H2 r s P2 dv => app_of (s.1 _ _ hFp hx) hl (q d v H2 r s P2 dv))
end
end L2
namespace L2
open PySem PySem.Spec PyProof.Rows
section
variable {K : PySem.W.Frag} {Z : List Addr} {p : Addr} {n n1 n2 : Nat} {σ : L2.St} {H : Hp} {tas : TA} {i j k : Nat} {R3 : PyData → PyData → PyData → Prop} {rest t u : TS} {D : Ends}
theorem ia_par3C (o : Occ Z H) (P : Pen K p n H) (h : IA K Z p n n1 tas σ (hid Z H) (fun ds => ∃ x y z, ds = [x, y, z] ∧ R3 x y z)) (q : ∀ x y z v1 v2 v3 H2, R3 x y z → SB p H H2 → Pen K p n1 H2 → Dx K (hid Z H2) v1 x → Dx K (hid Z H2) v2 y → Dx K (hid Z H2) v3 z → rest D (((σ.set i (some v1)).set j (some v2)).set k (some v3)) H2) :
    tSeq (tPar3 i j k tas) rest D σ H := h H (Same.refl _) o P _ fun ds vs H2 r s2 P2 dvs => by
  obtain ⟨x, y, z, rfl, r3⟩ := r
  obtain ⟨v1, v2, v3, rfl, d1, d2, d3⟩ := all3 dvs
  exact ⟨v1, v2, v3, rfl, q x y z v1 v2 v3 H2 r3 s2 P2 d1 d2 d3⟩
end
end L2
namespace L2
open PySem PySem.Spec PyProof.Rows
section
variable {K : PySem.W.Frag} {Z : List Addr} {σ : L2.St} {G G' : Hp} {items : List PyData} {te : TE}
/-- [e for target in items if test]: the list is new -/
theorem lcf_cps {wi : TI} {g : TG} {tt : TT} {vs : List Nat} {f : PyData → PyData} {p : PyData → Bool} (hi : EvI K Z wi σ G items) (hn : items.length ≤ sizeLine)
    (hb : ∀ (Z' : List Addr) (i : Nat) (d : PyData) (G' : Hp), items[i]? = some d → Same G G' → EvG K Z' g d (wipe σ vs) G' fun σ2 G2 => wipe σ2 vs = wipe σ vs ∧ An Z' tt σ2 G2 (p d) ∧ (p d = true → Ev K Z' te σ2 G2 (f d))) :
    ∀ H1, Same G (hid Z H1) → Occ Z H1 → ∀ Q : VK, (∀ D xs H2, H1 D = none → Same H1 H2 → H2 D = some (.lst xs) → DxAll K (hid (D :: Z) H2) xs ((items.filter p).map f) → Q (.ref D) H2) → tLc wi g tt te vs σ H1 Q := fun H1 s o Q q => hi H1 s o _ fun J H2 Gd Y s2 W hG hY D hD => by
  have o2 : Occ Z H2 := o.same s2
  have hDZ : D ∉ Z := o2.new hD
  refine lc_it W (fun i H => ∃ acc, H D = some (.lst acc) ∧ Same H2 H ∧ acc.length ≤ i ∧ DxAll K (hid (D :: Z) H) acc (((items.take i).filter p).map f)) ⟨[], upd_same, same_upd hD, Nat.le_refl _, .nil⟩
    (fun i H _ ⟨_, _, s3, _⟩ => hG H s3) ?_ ?_
  · rintro i x H H' hlt ⟨acc, hA, s3, hl, ha⟩ y
    obtain ⟨s4, d, hd, dx⟩ := hY i H x H' hlt s3 y
    have oD : ∀ {H' : Hp}, Same H H' → Occ (D :: Z) H' := fun {H'} s5 z hz => by
      rcases List.mem_cons.mp hz with e | e
      · rw [e, s5 _ _ hA]; simp
      · exact (o2.same (s3.trans s5)) z e
    have sD : ∀ {H' : Hp}, Same H H' → Same (hid Z H2) (hid (D :: Z) H') := fun {H'} s5 b u e => by
      obtain ⟨e1, e2⟩ := hid_some e
      have hb : b ∉ D :: Z := fun z => (List.mem_cons.mp z).elim (fun z => by rw [z, hD] at e2; cases e2) e1
      rw [hid_out hb]; exact s5 _ _ (s3 _ _ e2)
    have sG : Same G (hid (D :: Z) H') := (s.trans (same_hid s2)).trans (sD s4)
    refine hb (D :: Z) i d (hid (D :: Z) H') hd sG x H' (Same.refl _) (oD s4) (dx _ (sD (Same.refl _)) (oD (Same.refl _))) _ fun σ2 H5 s5 ⟨hw, hT, hE⟩ => ⟨hw, hT H5 (Same.refl _) (oD (s4.trans s5)) _ fun H6 s6 => ?_⟩
    have tk := take_snoc hd
    cases hp : p d with
    | false =>
      refine iteF ?_
      have s7 : Same H H6 := s4.trans (s5.trans s6)
      refine ⟨acc, s7 _ _ hA, s3.trans s7, by omega, ?_⟩
      rw [tk, List.filter_append, List.filter_cons, hp]
      simp only [Bool.false_eq_true, if_false, List.filter_nil, List.append_nil]
      exact DxAll.same (same_hid s7) _ _ ha
    | true =>
      refine iteT (hE hp H6 (same_hid s6) (oD (s4.trans (s5.trans s6))) _ fun v H7 s7 dv => ?_)
      have s8 : Same H H7 := s4.trans (s5.trans (s6.trans s7))
      refine ⟨acc, s8 _ _ hA, by omega, acc ++ [v], upd_same, fun b u e => ?_, by rw [List.length_append, List.length_singleton]; omega, ?_⟩
      · rw [upd_ne (ne_of_none e hD)]; exact s8 _ _ (s3 _ _ e)
      · rw [tk, List.filter_append, List.filter_cons, hp]
        simp only [if_true, List.filter_nil, List.map_append, List.map_cons, List.map_nil]
        have keep : Same (hid (D :: Z) H7) (hid (D :: Z) (upd H7 D (.lst (acc ++ [v])))) := same_but fun b u hb e => by
          rw [upd_ne fun z => hb (by rw [z]; exact List.mem_cons_self)]; exact e
        exact (DxAll.same (same_hid s8 |>.trans keep) _ _ ha).snoc (Dx.same keep _ _ dv)
  · rintro H ⟨acc, hA, s3, _, ha⟩
    rw [List.take_length] at ha
    refine q D acc H ?_ (s2.trans s3) hA ha
    cases qq : H1 D with
    | none => rfl
    | some u => rw [s2 _ _ qq] at hD; cases hD
end
end L2
namespace L2
open PySem PySem.Spec PyProof.Rows
theorem set_cps {te : TE} {i : Nat} {rest : TS} {D : Ends} {σ : L2.St} {H : Hp} (h : te σ H fun v H2 => rest D (σ.set i (some v)) H2) : tSeq (tAsg te (gName i)) rest D σ H := h
theorem ints_dx {K : PySem.W.Frag} {H H' : Hp} : ∀ {xs : List V} {ds : List PyData}, (∀ d ∈ ds, ∃ i : Int, d = .int i) → DxAll K H xs ds → DxAll K H' xs ds
  | _, _, _, .nil => .nil
  | _, d :: ds, h, .cons h1 t => by
    obtain ⟨i, rfl⟩ := h d List.mem_cons_self
    rw [h1.int_inv]
    exact .cons (.int i) (ints_dx (fun e he => h e (List.mem_cons_of_mem _ he)) t)
end L2
namespace L2
open PySem PySem.Spec PyProof.Rows
def spPen (K : PySem.W.Frag) : Sp := fun vs H Q _ => ∃ (a : Addr) (ns : List Int), vs = [.ref a] ∧ SqL K H a (ns.map V.int) ∧ ∀ p H', H p = none → Same H H' → Pen K p 0 H' → Q (.ref p) H'
theorem ints_all {K : PySem.W.Frag} {H : Hp} : ∀ ns : List Int, DxAll K H (ns.map V.int) (ns.map PyData.int)
  | [] => .nil
  | n :: r => .cons (.int n) (ints_all r)
theorem ev_slSq {K : PySem.W.Frag} {Z : List Addr} {σ : L2.St} {G : Hp} {i : Nat} {a : Addr} {ns : List Int} {k : Nat} {te : TE} (hv : σ[i]? = some (some (.ref a))) (hs : SqL K G a (ns.map V.int)) (hk : Ev K Z te σ G (.int k)) :
    Ev K Z (tSl (rSlL K) (tVar i) tNoPart (tPart te)) σ G (.list ((ns.take k).map PyData.int)) := fun H1 s o Q q => ⟨.ref a, hv, hk H1 s o _ fun v H2 s2 dv => ⟨k, dv.int_inv, a, _, rfl, hid_sub.seq ((s.trans (same_hid s2)).seq hs), fun c hc => q _ _ (s2.trans (same_upd hc)) (.lst (hid_upd ((o.same s2).new hc)) (by
    have h := (ints_all (K := K) (H := hid Z (upd H2 c (.lst (cutV (ns.map V.int) none (some (k : Int)))))) ns).cut none (some (k : Int))
    rw [cut_take, ← List.map_take] at h
    exact h))⟩⟩
end L2
namespace L2
open PySem PySem.Spec PyProof.Rows
theorem ret_lstC {K : PySem.W.Frag} {Z : List Addr} {σ : L2.St} {H : Hp} {ta : TA} {ds : List PyData} {D : Ends} (o : Occ Z H) (h : EvA K Z ta σ (hid Z H) ds) (hl : ds.length ≤ 1000) (q : ∀ vs H2 p, Same H H2 → DxAll K (hid Z H2) vs ds → H2 p = none → D.rt (.ref p) (upd H2 p (.lst vs))) : tRet (tLst ta) D σ H :=
  h H (Same.refl _) o _ fun vs H2 s dvs => ⟨by rw [dvs.length]; exact line1000 hl, fun p hp => q vs H2 p s dvs hp⟩
end L2
namespace L2
open PySem PySem.Spec PyProof.Rows
theorem pss_no {X : Cx} {ss : List Stmt} : PSs X ss (fun _ _ _ => False) := ⟨fun _ _ _ _ _ _ h => h.elim⟩
theorem pe_xpK {X : Cx} {a : Addr} {cls : Value} {d : Option Addr} {oe : Obj} {e : Expr} {te : TE} {pos : Pos} {n : Str} (K : PySem.W.Frag) (hK : X.K = K) (hp : (a, oe) ∈ X.pn) (hz : Zc cls d oe) (hf : ∃ vs, oe.data = .fields vs) (he : PE X e te) (hb : attributeBase e n X.env (eval e X.env) = eval e X.env := by rfl) : PE X (.Attribute e n pos) (tXp K a cls d n te) := by
  subst hK
  exact pe_xp hp hz hf he hb
end L2
namespace L2
open PySem PySem.Spec PyProof.Rows
theorem pi_listK {X : Cx} {tg e : Expr} {te : TE} (K : PySem.W.Frag) (hK : X.K = K) (h : PE X e te) : PI X tg e (iList K te) := by
  subst hK
  exact pi_list h
end L2
namespace L2
open PySem PySem.Spec PyProof.Rows
section
variable {K : PySem.W.Frag} {Z : List Addr} {σ : L2.St} {G : Hp} {i : Nat} {a C C2 dd : Addr} {fs : List (Str × V)} {b : Bool} {f part : Str}
theorem an_isN_ref (hv : σ[i]? = some (some (.ref a))) : An Z (tTest (tOp (fun x y H Q => y = .non ∧ Q (.bl (decide (x = .non))) H) (tVar i) (tC .non))) σ G false := fun H1 s o Q q => ⟨.ref a, hv, rfl, false, by simp, q H1 (Same.refl _)⟩
theorem ev_isP (hv : σ[i]? = some (some (.ref a))) (hG : G dd = some (.xd fs)) (E : ExcC K C) (hk : PySem.W.kitOne K (.ref C) (.ref C2) = some b) : Ev K Z (tCB (rIsP K a (.ref C) (some dd)) (tCons (tVar i) (tCons (tC (.ref C2)) tNil))) σ G (.bool b) := fun H1 s o Q q =>
  ⟨.ref a, hv, C, dd, fs, .ref C2, .ref C2, b, rfl, rfl, rfl, hid_sub _ _ (s _ _ hG), E, fun u r => r, hk, q _ H1 (Same.refl _) (.bl b)⟩
theorem ev_xp (hv : σ[i]? = some (some (.ref a))) (hG : G dd = some (.xd fs)) (T : XfC K C) (hn : PySem.W.findIn K (.ref C) f = some none) (hl : fs.lookup f = some (.str part)) : Ev K Z (tXp K a (.ref C) (some dd) f (tVar i)) σ G (.str part) := fun H1 s o Q q =>
  ⟨.ref a, hv, C, dd, fs, .str part, rfl, rfl, T, hn, rfl, hid_sub _ _ (s _ _ hG), hl, q _ H1 (Same.refl _) (.str part)⟩
end
end L2
/-! LV: repr of data, where no repr is under way. -/
namespace L2
open PySem PySem.Spec PyProof.Rows
def rRepr (K : PySem.W.Frag) : List V → Hp → VK → Prop := fun xs H Q => ∃ (a : Addr) (d : PyData), xs = [.ref a] ∧ L2.Dp K H (.ref a) d ∧ PyData.layable0 d = true ∧ d.showable = true ∧ d.intsShort 13 = true ∧ Q (.str d.shown) H
theorem call_reprD {X : Cx} (hg : X.A.guards = some []) (hu : X.A.units + 66 < cLine) : CallR X (.builtin "repr") (rRepr X.K) := by
  intro pins s σ H xs us Q I r h
  obtain ⟨a, d, rfl, hd, hl, hs, hi, q⟩ := h
  obtain ⟨u, rfl, rx⟩ := vals1 r
  cases rx
  obtain ⟨as, rd⟩ := L2.Dp.reads I d _ _ hd rfl
  refine repr_of_reads' rd hs (PyData.noDict_hsm (PyData.hasDict_of_layable hl)) hg (by have := PyData.depth_le_of_layable hl; omega) (fun _ _ e => e) (fun h' u tk hk => ⟨.str d.shown, H, I.kept hk, ⟨u, rfl⟩, q⟩) ?_
  have := shown_le13 hl hi
  rw [sizeLine_eq]; omega
section
variable {K : PySem.W.Frag} {Z : List Addr} {σ : L2.St} {G : Hp} {te : TE} {ds : List PyData}
theorem ev_repr (h : Ev K Z te σ G (.tuple ds)) (hl : PyData.layable0 (.tuple ds) = true) (hs : (PyData.tuple ds).showable = true) (hi : (PyData.tuple ds).intsShort 13 = true) : Ev K Z (tCB (rRepr K) (tCons te tNil)) σ G (.str (PyData.tuple ds).shown) := fun H1 s o Q q => h H1 s o _ fun v H2 s2 dv => by
  obtain ⟨a, xs, rfl, _, _⟩ := dv.tup_inv
  exact ⟨a, _, rfl, (Dx.same hid_sub _ _ dv).dp, hl, hs, hi, q _ H2 s2 (.str _)⟩
end
end L2
/-! LW: values of any kind gathered in a new list; data without lists. -/
namespace L2
open PySem PySem.Spec PyProof.Rows
section
variable {K : PySem.W.Frag} {Z : List Addr} {p : Addr} {n k : Nat} {σ : L2.St} {G : Hp} {te : TE} {items : List PyData}
/-- [e for target in items], e any value that R lets -/
theorem lc_v {wi : TI} {g : TG} {vs : List Nat} {R : Nat → V → Hp → Prop} (hp : p ∈ Z) (hR : ∀ i v A B, Same A B → R i v A → R i v B) (hi : IW K Z p n n wi σ G (fun x => x = items)) (hL : items.length ≤ 1000)
    (hb : ∀ (Z' : List Addr) (i : Nat) (d : PyData) (G' : Hp), p ∈ Z' → (∀ z ∈ Z, z ∈ Z') → items[i]? = some d → Same G G' → EvG K Z' g d (wipe σ vs) G' fun σ2 G2 => wipe σ2 vs = wipe σ vs ∧
      ∀ H, Same G2 (hid Z' H) → Occ Z' H → Pen K p (n + i * k) H → ∀ Q : VK, (∀ v H2, R i v (hid Z' H2) → SB p H H2 → Pen K p (n + (i + 1) * k) H2 → Q v H2) → te σ2 H Q) :
    ∀ H1, Same G (hid Z H1) → Occ Z H1 → Pen K p n H1 → ∀ Q : VK, (∀ D xs H2, H1 D = none → SB p H1 H2 → Pen K p (n + items.length * k) H2 → H2 D = some (.lst xs) → xs.length = items.length → (∀ i x, xs[i]? = some x → R i x (hid (D :: Z) H2)) → Q (.ref D) H2) → tLc wi g tYes te vs σ H1 Q :=
  fun H1 s o P Q q => hi H1 s o P _ fun items' J H2 Gd Y ri s2 P2 W hG hY D hD => by
  subst ri
  have o2 : Occ Z H2 := occ_step o s2 P2
  have hDZ : D ∉ Z := o2.new hD
  have hDp : D ≠ p := fun e => hDZ (e ▸ hp)
  refine lc_it W (fun i H => ∃ acc, H D = some (.lst acc) ∧ SB p H2 H ∧ Pen K p (n + i * k) H ∧ acc.length = i ∧ ∀ j x, acc[j]? = some x → R j x (hid (D :: Z) H)) ⟨[], upd_same, .of (same_upd hD), (P2.same (same_upd hD)).le (by omega), rfl, fun j x e => by simp at e⟩
    (fun i H _ ⟨_, _, s3, _⟩ => ?_) ?_ ?_
  · exact hG H (s3.hid hp)
  · rintro i x H H' hlt ⟨acc, hA, s3, P3, hlen, hx⟩ y
    obtain ⟨s4, d, hd, dx⟩ := hY i H x H' hlt (s3.hid hp) y
    have oD : ∀ {H' : Hp}, Same H H' → Occ (D :: Z) H' := fun {H'} s5 z hz => by
      rcases List.mem_cons.mp hz with e | e
      · rw [e, s5 _ _ hA]; simp
      · exact ((occ_step o2 s3 P3).same s5) z e
    have hp' : p ∈ D :: Z := List.mem_cons_of_mem _ hp
    have sD : ∀ {H' : Hp}, Same H H' → Same (hid Z H2) (hid (D :: Z) H') := fun {H'} s5 b u e => by
      obtain ⟨e1, e2⟩ := hid_some e
      have hb : b ∉ D :: Z := fun z => (List.mem_cons.mp z).elim (fun z => by rw [z, hD] at e2; cases e2) e1
      rw [hid_out hb]; exact s5 _ _ (s3.1 _ _ (fun z => e1 (z ▸ hp)) e2)
    have sG : Same G (hid (D :: Z) H') := (s.trans (s2.hid hp)).trans (sD s4)
    refine hb (D :: Z) i d (hid (D :: Z) H') hp' (fun z hz => List.mem_cons_of_mem _ hz) hd sG x H' (Same.refl _) (oD s4) (dx _ (sD (Same.refl _)) (oD (Same.refl _))) _ fun σ2 H5 s5 ⟨hw, hE⟩ => And.intro hw ?_
    unfold tYes
    show (if true = true then _ else _)
    rw [if_pos rfl]
    refine hE H5 (Same.refl _) (oD (s4.trans s5)) (P3.same (s4.trans s5)) _ fun v H7 rv s7 P7 => ?_
    have s8 : SB p H H7 := (SB.of (s4.trans s5)).trans s7
    have s37 : SB p H2 (upd H7 D (.lst (acc ++ [v]))) := ⟨fun b u n e => by
      by_cases hbD : b = D
      · rw [hbD, hD] at e; cases e
      · rw [upd_ne hbD]; exact s8.1 _ _ n (s3.1 _ _ n e), fun w a r e => by
        rw [upd_ne fun z => hDp z.symm]
        exact (s3.trans s8).2 w a r e⟩
    have keep : Same (hid (D :: Z) H7) (hid (D :: Z) (upd H7 D (.lst (acc ++ [v])))) := same_but fun b u hb e => by
      rw [upd_ne fun z => hb (by rw [z]; exact List.mem_cons_self)]; exact e
    refine ⟨acc, s8.1 _ _ hDp hA, ?_, acc ++ [v], upd_same, s37, ?_, ?_, ?_⟩
    · rw [hlen, sizeLine_eq]; omega
    · exact pen_after P2 s37 (by rw [upd_ne fun z => hDp z.symm]) P7
    · rw [List.length_append, hlen]; rfl
    · intro j x ej
      by_cases hj : j < acc.length
      · rw [List.getElem?_append_left hj] at ej
        exact hR _ _ _ _ ((s8.hid hp').trans keep) (hx j x ej)
      · have : j = acc.length := by
          have := (List.getElem?_eq_some_iff.mp ej).1
          rw [List.length_append, List.length_singleton] at this; omega
        subst this
        rw [List.getElem?_append_right (Nat.le_refl _), Nat.sub_self] at ej
        cases ej
        rw [hlen]; exact hR _ _ _ _ keep rv
  · rintro H ⟨acc, hA, s3, P3, hlen, hx⟩
    have hn : H1 D = none := by
      cases qq : H1 D with
      | none => rfl
      | some u =>
        rw [s2.1 _ _ hDp qq] at hD; cases hD
    exact q D acc H hn (s2.trans s3) P3 hA hlen hx
end
/-! data without lists -/
section
variable {K : PySem.W.Frag} {Z : List Addr} {G H : Hp}
theorem SqT.hidL {a : Addr} {xs : List V} (hz : ∀ z ∈ Z, ∃ ys, G z = some (.lst ys)) (h : SqT K G a xs) : SqT K (hid Z G) a xs := by
  rcases h with (h | ⟨o, h⟩) | h
  · refine .inl (.inl ?_)
    rw [hid_out fun m => ?_]; exact h
    obtain ⟨ys, e⟩ := hz _ m
    rw [e] at h; cases h
  · refine .inl (.inr ⟨o, ?_⟩)
    rw [hid_out fun m => ?_]; exact h
    obtain ⟨ys, e⟩ := hz _ m
    rw [e] at h; cases h
  · exact .inr h
theorem fixD_list_ne {ds : List PyData} : fixD (.list ds) ≠ .list ds := fun h => by rw [fixD_list] at h; cases h
mutual
theorem Dx.hidL (hz : ∀ z ∈ Z, ∃ ys, G z = some (.lst ys)) : ∀ {v : V} {d : PyData}, Dx K G v d → fixD d = d → Dx K (hid Z G) v d
  | _, _, .non, _ => .non
  | _, _, .bl b, _ => .bl b
  | _, _, .int i, _ => .int i
  | _, _, .str x, _ => .str x
  | _, _, .lst h1 h2, h => absurd h fixD_list_ne
  | _, _, .tup h1 h2, h => .tup (SqT.hidL hz h1) (DxAll.hidL hz h2 (by rw [fixD_tuple] at h; exact PyData.tuple.inj h))
theorem DxAll.hidL (hz : ∀ z ∈ Z, ∃ ys, G z = some (.lst ys)) : ∀ {vs : List V} {ds : List PyData}, DxAll K G vs ds → ds.map fixD = ds → DxAll K (hid Z G) vs ds
  | _, _, .nil, _ => .nil
  | _, _, .cons h1 h2, h => .cons (Dx.hidL hz h1 (List.cons.inj h).1) (DxAll.hidL hz h2 (List.cons.inj h).2)
end
theorem FR.hidL (hz : ∀ z ∈ Z, ∃ ys, G z = some (.lst ys)) : ∀ {fs : List (Str × V)} {fd : List (Str × PyData)}, FR K G fs fd → (∀ q ∈ fd, fixD q.2 = q.2) → FR K (hid Z G) fs fd
  | _, _, .nil, _ => .nil
  | _, _, .cons ⟨h1, h2⟩ t, h => .cons ⟨h1, h2.hidL hz (h _ List.mem_cons_self)⟩ (FR.hidL hz t fun q hq => h q (List.mem_cons_of_mem _ hq))
theorem InsD.hidL {C x : Addr} {fd : List (Str × PyData)} (hz : ∀ z ∈ Z, ∃ ys, G z = some (.lst ys)) (h : InsD K C G x fd) (hf : ∀ q ∈ fd, fixD q.2 = q.2) : InsD K C (hid Z G) x fd := by
  obtain ⟨dx, fs, e, r⟩ := h
  refine ⟨dx, fs, ?_, r.hidL hz hf⟩
  rw [hid_out fun m => ?_]; exact e
  obtain ⟨ys, e2⟩ := hz _ m
  rw [e2] at e; cases e
end
end L2
/-! LW2: exact values; heaps in which tables grow. -/
namespace L2
open PySem PySem.Spec PyProof.Rows LamX
section
variable {K : PySem.W.Frag} {Z : List Addr} {p q : Addr} {n m k i : Nat} {σ : L2.St} {G G' H H' : Hp} {te ta tb ti : TE} {tas : TA} {v w : V} {vs xs ys : List V} {d : PyData} {E : XK}
/-! ### all but tables stays -/
theorem sqT_extN {a : Addr} (e : ExtN G G') (h : SqT K G a xs) : SqT K G' a xs := by
  rcases h with (h | ⟨o, h⟩) | h
  · exact .inl (.inl (e _ _ h fun ps z => by cases z))
  · exact .inl (.inr ⟨o, e _ _ h fun ps z => by cases z⟩)
  · exact .inr h
mutual
theorem Dx.extN (e : ExtN G G') : ∀ (d : PyData) (v : V), Dx K G v d → Dx K G' v d
  | .none, _, h => by cases h; exact .non
  | .bool b, _, h => by cases h; exact .bl b
  | .int i, _, h => by cases h; exact .int i
  | .str x, _, h => by cases h; exact .str x
  | .list ds, _, h => by cases h with | lst hs ha => exact .lst (e _ _ hs fun ps z => by cases z) (DxAll.extN e ds _ ha)
  | .tuple ds, _, h => by cases h with | tup hs ha => exact .tup (sqT_extN e hs) (DxAll.extN e ds _ ha)
  | .dict _, _, h => by cases h
theorem DxAll.extN (e : ExtN G G') : ∀ (ds : List PyData) (vs : List V), DxAll K G vs ds → DxAll K G' vs ds
  | [], _, h => by cases h; exact .nil
  | d :: ds, _, h => by cases h with | cons h1 h2 => exact .cons (Dx.extN e d _ h1) (DxAll.extN e ds _ h2)
end
theorem Dq.extN (h : Dq K G v d) (e : ExtN G G') : Dq K G' v d := by
  rcases h with h | ⟨rfl, a, kvs, rfl, h⟩
  · exact .inl (Dx.extN e _ _ h)
  · exact .inr ⟨rfl, a, kvs, rfl, e _ _ h fun ps z => by cases z⟩
theorem extN_hid (e : ExtN H H') : ExtN (hid Z H) (hid Z H') := fun b o h n => by
  obtain ⟨h1, h2⟩ := hid_some h
  rw [hid_out h1]; exact e b o h2 n
theorem extN_same (s : Same H H') : ExtN H H' := fun b o h _ => s b o h
theorem Pen.extN (h : Pen K p n H) (e : ExtN H H') : Pen K p n H' := by
  obtain ⟨c, a, r, ⟨v, e1, d⟩, h2⟩ := h
  exact ⟨c, a, r, ⟨v, e _ _ e1 (fun ps z => by cases z), Dx.extN (extN_hid e) _ _ d⟩, h2⟩
theorem Tabs.sb {T : List (Addr × Str)} (h : Tabs T H) (P : Pen K p n H) (s : SB p H H') : Tabs T H' := fun t ht => by
  obtain ⟨ps, h1, h2, h3⟩ := h t ht
  obtain ⟨_, _, _, ⟨v, e, _⟩, _⟩ := P
  refine ⟨ps, s.1 _ _ (fun z => by rw [z, e] at h1; cases h1) h1, h2, fun pos cv hc => ?_⟩
  obtain ⟨c, e1, e2⟩ := h3 pos cv hc
  refine ⟨c, e1, s.1 _ _ (fun z => ?_) e2⟩
  rw [z, e] at e2
  unfold CodeO at e2
  cases e2
theorem Tabs.same {T : List (Addr × Str)} (h : Tabs T H) (s : Same H H') : Tabs T H' := h.ext s
/-! ### exact values -/
def Ve (te : TE) (σ : L2.St) (H : Hp) (v : V) : Prop := ∀ H1, Same H H1 → ∀ Q : VK, (∀ H2, Same H1 H2 → Q v H2) → te σ H1 Q
def Va (ta : TA) (σ : L2.St) (H : Hp) (vs : List V) : Prop := ∀ H1, Same H H1 → ∀ Q : List V → Hp → Prop, (∀ H2, Same H1 H2 → Q vs H2) → ta σ H1 Q
/-- a new list of these values -/
def Vl (te : TE) (σ : L2.St) (H : Hp) (xs : List V) : Prop := ∀ H1, Same H H1 → ∀ Q : VK, (∀ c H2, Same H1 H2 → H1 c = none → H2 c = some (.lst xs) → Q (.ref c) H2) → te σ H1 Q
theorem Ve.mono (h : Ve te σ H v) (s : Same H H') : Ve te σ H' v := fun H1 s1 => h H1 (s.trans s1)
theorem Vl.mono (h : Vl te σ H xs) (s : Same H H') : Vl te σ H' xs := fun H1 s1 => h H1 (s.trans s1)
theorem Va.mono (h : Va tas σ H xs) (s : Same H H') : Va tas σ H' xs := fun H1 s1 => h H1 (s.trans s1)
theorem ve_var (h : σ[i]? = some (some v)) : Ve (tVar i) σ H v := fun H1 s Q q => ⟨v, h, q H1 (Same.refl _)⟩
theorem ve_c : Ve (tC v) σ H v := fun H1 s Q q => q H1 (Same.refl _)
theorem va_nil : Va tNil σ H [] := fun H1 s Q q => q H1 (Same.refl _)
theorem va_cons (h : Ve te σ H v) (t : Va tas σ H vs) : Va (tCons te tas) σ H (v :: vs) := fun H1 s Q q => h H1 s _ fun H2 s2 => t H2 (s.trans s2) _ fun H3 s3 => q H3 (s2.trans s3)
theorem vl_lst (h : Va tas σ H vs) (hl : vs.length ≤ 1000) : Vl (tLst tas) σ H vs := fun H1 s Q q => h H1 s _ fun H2 s2 => ⟨line1000 hl, fun c hc => q c _ (s2.upd hc) (by
  cases e : H1 c with
  | none => rfl
  | some o => rw [s2 _ _ e] at hc; cases hc) upd_same⟩
theorem ve_ixN (h : Vl te σ H xs) (hi : Ve ti σ H (.int (i : Int))) (hv : xs[i]? = some v) : Ve (tOp (rIx K) te ti) σ H v := fun H1 s Q q => h H1 s _ fun c H2 s2 _ hc => hi H2 (s.trans s2) _ fun H3 s3 =>
  .inl ⟨c, xs, i, v, rfl, rfl, .inl (.inl (s3 _ _ hc)), atI_nat hv, q H3 (s2.trans s3)⟩
theorem ve_ixV {B : Addr} (h : Ve te σ H (.ref B)) (hB : H B = some (.lst xs)) (hi : Ve ti σ H (.int (i : Int))) (hv : xs[i]? = some v) : Ve (tOp (rIx K) te ti) σ H v := fun H1 s Q q => h H1 s _ fun H2 s2 => hi H2 (s.trans s2) _ fun H3 s3 =>
  .inl ⟨B, xs, i, v, rfl, rfl, .inl (.inl (s3 _ _ (s2 _ _ (s _ _ hB)))), atI_nat hv, q H3 (s2.trans s3)⟩
theorem new_of {H1 H2 : Hp} {c : Addr} (s : Same H1 H2) (hc : H2 c = none) : H1 c = none := by
  cases e : H1 c with
  | none => rfl
  | some o => rw [s _ _ e] at hc; cases hc
theorem cutV_take {k : Nat} : cutV xs none (some (k : Int)) = xs.take k := by
  unfold cutV
  rw [HT.sIx_nat, HT.sIx_none, List.drop_zero, Nat.sub_zero]
  exact List.take_eq_take_min.symm
theorem vl_slice (h : Vl te σ H xs) (hi : Ve ti σ H (.int (k : Int))) : Vl (tSl (rSlL K) te tNoPart (tPart ti)) σ H (xs.take k) := fun H1 s Q q => h H1 s _ fun c H2 s2 _ hc => hi H2 (s.trans s2) _ fun H3 s3 =>
  ⟨k, rfl, c, xs, rfl, .inl (.inl (s3 _ _ hc)), fun c2 hc2 => by
    rw [cutV_take]
    exact q c2 _ ((s2.trans s3).upd hc2) (new_of (s2.trans s3) hc2) upd_same⟩
theorem vl_cat (ha : Vl ta σ H xs) (hb : Vl tb σ H ys) (hl : xs.length + ys.length ≤ 1000) : Vl (tOp rCat ta tb) σ H (xs ++ ys) := fun H1 s Q q => ha H1 s _ fun c H2 s2 _ hc => hb H2 (s.trans s2) _ fun c2 H3 s3 _ hc2 =>
  ⟨c, c2, xs, ys, rfl, rfl, s3 _ _ hc, hc2, line1000 hl, fun c3 hc3 => q c3 _ ((s2.trans s3).upd hc3) (new_of (s2.trans s3) hc3) upd_same⟩
/-- pick(pen, list) -/
theorem pickV_cps {Q : VK} (hv : σ[i]? = some (some (.ref p))) (h : Vl te σ H vs) (Pp : Pen K p n H) (hne : vs ≠ []) (hl : vs.length ≤ 1000) (hn : n < 1048576)
    (q : ∀ v H2, v ∈ vs → SB p H H2 → Pen K p (n + 1) H2 → Q v H2) : tCall (spPick K) [] E (tCons (tVar i) (tCons te tNil)) σ H Q :=
  ⟨.ref p, hv, h H (Same.refl _) _ fun c H2 s2 hcn hc => by
    have hcp : c ≠ p := fun e => Pp.there (e ▸ hcn)
    exact ⟨p, c, n, vs, rfl, .inl (.inl (by rw [hid_out fun z => hcp (List.mem_singleton.mp z)]; exact hc)), hne, by omega, hn, Pp.same s2, fun v H5 hm s5 P5 => q v H5 hm ((SB.of s2).trans s5) P5⟩⟩
theorem iw_rngC2 {a b : Nat} (h : EvA K Z tas σ G [.int a, .int b]) (hb : b < 1000) (ha : a < 1000) : IW K Z p n n (iRng2 tas) σ G (fun items => items = rngD a (b - a)) := fun H1 s o P R q => h H1 s o _ fun vs H2 s2 dvs => by
  obtain ⟨v, w, rfl, dv, dw⟩ := all2 dvs
  have e : ((b : Int) - (a : Int)).toNat = b - a := by omega
  refine ⟨a, b, by rw [dv.int_inv, dw.int_inv], by omega, q (rngD a (b - a)) _ H2 _ _ rfl (.of s2) (P.same s2) (by rw [rngD_length, e]; exact walk_range) (fun _ _ => trivial) fun i H3 x H4 hi s3 y => ?_⟩
  obtain ⟨rfl, rfl⟩ := y
  rw [rngD_length] at hi
  exact ⟨Same.refl _, _, rngD_get hi, fun _ _ _ => .int _⟩
end
end L2
/-! LH: facts of the top, read by a Bool of the written part. -/
namespace L2
open PySem PySem.Spec PyProof.Rows
theorem ba2 {a b : Bool} (h : (a && b) = true) : a = true ∧ b = true := Bool.and_eq_true_iff.mp h
/-! ### data -/
mutual
def datB (K : PySem.W.Frag) : PyData → Value → Bool
  | .none, .none => true
  | .bool b, .bool c => decide (b = c)
  | .int i, .int j _ => decide (i = j)
  | .str x, .str y _ => decide (x = y)
  | .tuple ds, .ref a => match K.lookup a with
    | some ⟨.type c, _, .seq its _, _⟩ => decide (c = "tuple") && (decide (its.size ≤ sizeLine) && datsB K ds its.toList)
    | _ => false
  | _, _ => false
def datsB (K : PySem.W.Frag) : List PyData → List Value → Bool
  | [], [] => true
  | d :: ds, u :: us => datB K d u && datsB K ds us
  | _, _ => false
end
mutual
theorem datB_ok {K : PySem.W.Frag} : ∀ {d : PyData} {u : Value}, datB K d u = true → ∃ v, RelV v u ∧ ∀ H, Dx K H v d
  | .none, .none, _ => ⟨.non, rfl, fun _ => .non⟩
  | .bool b, .bool c, h => by
    rw [datB] at h
    obtain rfl := of_decide_eq_true h
    exact ⟨.bl b, rfl, fun _ => .bl b⟩
  | .int i, .int j t, h => by
    rw [datB] at h
    obtain rfl := of_decide_eq_true h
    exact ⟨.int i, ⟨t, rfl⟩, fun _ => .int i⟩
  | .str x, .str y t, h => by
    rw [datB] at h
    obtain rfl := of_decide_eq_true h
    exact ⟨.str x, ⟨t, rfl⟩, fun _ => .str x⟩
  | .tuple ds, .ref a, h => by
    rw [datB] at h
    cases q : K.lookup a with
    | none => rw [q] at h; cases h
    | some o =>
      obtain ⟨oc, od, dt, sl⟩ := o
      rw [q] at h
      cases oc with
      | type c =>
        cases dt with
        | seq its n =>
          obtain ⟨h1, h2⟩ := ba2 h
          obtain ⟨h3, h4⟩ := ba2 h2
          obtain ⟨vs, r, hd⟩ := datsB_ok h4
          exact ⟨.ref a, rfl, fun H => .tup (.inr ⟨_, its, n, q, congrArg Value.type (of_decide_eq_true h1), rfl, of_decide_eq_true h3, r⟩) (hd H)⟩
        | _ => cases h
      | _ => cases dt <;> cases h
theorem datsB_ok {K : PySem.W.Frag} : ∀ {ds : List PyData} {us : List Value}, datsB K ds us = true → ∃ vs, Vals vs us ∧ ∀ H, DxAll K H vs ds
  | [], [], _ => ⟨[], .nil, fun _ => .nil⟩
  | [], _ :: _, h => by rw [datsB] at h; cases h; all_goals (intros; simp_all)
  | _ :: _, [], h => by rw [datsB] at h; cases h; all_goals (intros; simp_all)
  | d :: ds, u :: us, h => by
    rw [datsB] at h
    obtain ⟨h1, h2⟩ := ba2 h
    obtain ⟨v, r, hd⟩ := datB_ok h1
    obtain ⟨vs, rs, hds⟩ := datsB_ok h2
    exact ⟨v :: vs, .cons r rs, fun H => .cons (hd H) (hds H)⟩
end
theorem datB_ref {K : PySem.W.Frag} {d : PyData} {a : Addr} (h : datB K d (.ref a) = true) (H : Hp) : Dx K H (.ref a) d := by
  obtain ⟨v, r, hd⟩ := datB_ok h
  have e : v = .ref a := by
    cases v with
    | ref b => cases r; rfl
    | _ => first | (cases r; done) | (obtain ⟨_, r⟩ := r; cases r)
  rw [← e]; exact hd H

/-! ### tables -/
def entB (K : PySem.W.Frag) : List (Str × PyData) → List DictEntry → Bool
  | [], [] => true
  | (x, d) :: r, e :: es => (match e.key with
    | .str y _ => decide (y = x)
    | _ => false) && (datB K d e.val && entB K r es)
  | _, _ => false
def tabB (K : PySem.W.Frag) (a : Addr) (kvs : List (Str × PyData)) : Bool := match K.lookup a with
  | some ⟨_, _, .dict es _, _⟩ => entB K kvs es.toList
  | _ => false
theorem ent_find {K : PySem.W.Frag} (z : Str) : ∀ {kvs : List (Str × PyData)} {es : List DictEntry}, entB K kvs es = true → es.any (·.refKey) = false ∧
    (match kvs.lookup z with
      | none => es.find? (·.key.isStr z) = none
      | some d => ∃ e v, es.find? (·.key.isStr z) = some e ∧ RelV v e.val ∧ ∀ H, Dx K H v d)
  | [], [], _ => ⟨rfl, rfl⟩
  | [], _ :: _, h => by cases h
  | _ :: _, [], h => by cases h
  | (x, d) :: r, e :: es, h => by
    obtain ⟨h1, h2⟩ := ba2 (show ((match e.key with
      | .str y _ => decide (y = x)
      | _ => false) && (datB K d e.val && entB K r es)) = true from h)
    obtain ⟨h3, h4⟩ := ba2 h2
    obtain ⟨i1, i2⟩ := ent_find z h4
    have hk : ∃ t, e.key = .str x t := by
      cases q : e.key with
      | str y t => rw [q] at h1; exact ⟨t, by rw [of_decide_eq_true h1]⟩
      | _ => rw [q] at h1; cases h1
    obtain ⟨t, hk⟩ := hk
    have e1 : e.refKey = false := by unfold DictEntry.refKey; rw [hk]
    have e2 : e.key.isStr z = (x == z) := by rw [hk]; rfl
    refine ⟨by rw [List.any_cons, e1, i1]; rfl, ?_⟩
    rw [List.lookup_cons, List.find?_cons, e2]
    by_cases hz : z = x
    · subst hz
      rw [beq_self_eq_true]
      obtain ⟨v, rv, hd⟩ := datB_ok h3
      exact ⟨e, v, rfl, rv, hd⟩
    · have n1 : (z == x) = false := beq_eq_false_iff_ne.mpr hz
      have n2 : (x == z) = false := beq_eq_false_iff_ne.mpr fun q => hz q.symm
      rw [n1, n2]
      exact i2
theorem tabB_ok {K : PySem.W.Frag} {w : World} {a : Addr} {kvs : List (Str × PyData)} (h : tabB K a kvs = true) (hd : ∃ es n, KDict K w a es n) : KTab K w a kvs := by
  refine ⟨hd, fun z => ?_⟩
  unfold tabB at h
  cases q : K.lookup a with
  | none => rw [q] at h; cases h
  | some o =>
    obtain ⟨oc, od, dt, sl⟩ := o
    rw [q] at h
    cases dt with
    | dict es n =>
      obtain ⟨h1, h2⟩ := ent_find z (show entB K kvs es.toList = true from h)
      unfold PySem.W.nsIn
      rw [q]
      show ∃ r, (match es.toList.find? (·.key.isStr z) with
        | some e => some (some e.val)
        | none => if es.toList.any (·.refKey) then none else some none) = some r ∧ _
      cases q2 : kvs.lookup z with
      | none =>
        rw [q2] at h2
        rw [show es.toList.find? (·.key.isStr z) = none from h2, h1]
        exact ⟨none, rfl, rfl⟩
      | some d =>
        rw [q2] at h2
        obtain ⟨e, v, h3, h4, h5⟩ := h2
        rw [h3]
        exact ⟨_, rfl, e.val, v, rfl, h4, h5⟩
    | _ => cases h
/-! ### exception classes -/
def oexB (K : PySem.W.Frag) (C : Addr) : Bool := (match K.lookup C with
  | some ⟨.type t, _, .cls cd, sl⟩ => decide (t = "type") && ((match cd.mro with
    | .ref D :: bm => decide (D = C) && PySem.HandSPX.refsVE bm
    | _ => false) && (cd.hasDict && (!cd.hasDel && (decide (sl.size = 6) && He.eqO sl[4]? (some (some (.builtin "ValueError.__new__")))))))
  | _ => false) && (He.eqO (PySem.W.findIn K (.ref C) "__setattr__") (some (some (.builtin "object.__setattr__"))) && (decide (PySem.W.subIn K (.ref C) (.type "BaseException") = some true) && (decide (PySem.W.typeIn K (.ref C) = some (.type "type")) && PySem.W.keepIn K (.ref C))))
theorem six_of {sl : Array (Option Value)} {v : Option Value} (h : sl.size = 6) (e : sl[4]? = some v) : ∃ k0 k1 k2 k3 k5, sl = #[k0, k1, k2, k3, v, k5] := by
  obtain ⟨l⟩ := sl
  match l, h with
  | [k0, k1, k2, k3, k4, k5], _ =>
    have : k4 = v := by simpa using e
    exact ⟨k0, k1, k2, k3, k5, by rw [this]⟩
theorem oexB_ok {K : PySem.W.Frag} {C : Addr} (h : oexB K C = true) : OexC K C := by
  unfold oexB at h
  obtain ⟨h1, h⟩ := ba2 h
  obtain ⟨h2, h⟩ := ba2 h
  obtain ⟨h3, h⟩ := ba2 h
  obtain ⟨h4, h5⟩ := ba2 h
  refine ⟨?_, He.eqO_ok h2, of_decide_eq_true h3, of_decide_eq_true h4, h5⟩
  cases q : K.lookup C with
  | none => rw [q] at h1; cases h1
  | some o =>
    obtain ⟨oc, od, dt, sl⟩ := o
    rw [q] at h1
    cases oc with
    | type t =>
      cases dt with
      | cls cd =>
        obtain ⟨a1, h⟩ := ba2 h1
        obtain ⟨a2, h⟩ := ba2 h
        obtain ⟨a3, h⟩ := ba2 h
        obtain ⟨a4, h⟩ := ba2 h
        obtain ⟨a5, a6⟩ := ba2 h
        obtain ⟨k0, k1, k2, k3, k5, e⟩ := six_of (of_decide_eq_true a5) (He.eqO_ok a6)
        obtain ⟨nm, bs, mro, ns, qn, hd, sn, sb, ab, col, dl⟩ := cd
        match mro, a2 with
        | .ref D :: bm, a2 =>
          obtain ⟨b1, b2⟩ := ba2 a2
          obtain rfl := of_decide_eq_true b1
          have c3 : hd = true := a3
          have c4 : dl = false := by
            have : (!dl) = true := a4
            cases dl
            · rfl
            · cases this
          have c1 : t = "type" := of_decide_eq_true a1
          subst c1 c3 c4
          exact ⟨nm, qn, ns, bs, bm, sn, sb, ab, col, od, k0, k1, k2, k3, k5, by rw [e], b2⟩
      | _ => cases h1
    | _ => cases dt <;> cases h1
def excB (K : PySem.W.Frag) (D : Addr) : Bool := He.eqO (PySem.W.findIn K (.ref D) "__getattribute__") (some (some (.builtin "BaseException.__getattribute__"))) && (He.eqO (PySem.W.findIn K (.ref D) "__getattr__") (some none) && (decide (PySem.W.subIn K (.ref D) (.type "BaseException") = some true) && (PySem.W.hasDictIn K D &&
  (He.eqO (PySem.W.findIn K (.ref D) "__class__") (some (some (.builtin "object.__class__"))) && (He.eqO (PySem.W.specialIn K (.builtin "object.__class__") "__get__") (some (some (.builtin "getset_descriptor.__get__"))) && (decide (PySem.W.takesIn K (.builtin "object.__class__") = some true) && decide (PySem.W.mroIn K D (.type "object") = some true)))))))
theorem excB_ok {K : PySem.W.Frag} {D : Addr} (h : excB K D = true) : ExcC K D := by
  unfold excB at h
  obtain ⟨h1, h⟩ := ba2 h
  obtain ⟨h2, h⟩ := ba2 h
  obtain ⟨h3, h⟩ := ba2 h
  obtain ⟨h4, h⟩ := ba2 h
  obtain ⟨h5, h⟩ := ba2 h
  obtain ⟨h6, h⟩ := ba2 h
  obtain ⟨h7, h8⟩ := ba2 h
  exact ⟨He.eqO_ok h1, He.eqO_ok h2, of_decide_eq_true h3, h4, He.eqO_ok h5, He.eqO_ok h6, of_decide_eq_true h7, of_decide_eq_true h8⟩
/-! ### functions -/
theorem fun_of {K : PySem.W.Frag} {x qual : Str} {st : Stmt} {f : Addr} {fd : FuncData} (F : FunD K x qual (defArgs st) (defBody st) (defScope st) [] [] f fd) : Fun K x qual st f fd := by
  obtain ⟨oc, od, dV, kV, doc, pm, an, cdv, ct, osl, rfl, lk, hcd, hD, _⟩ := F.ex
  rcases hD with ⟨_, rfl⟩ | ⟨e, _⟩
  · exact ⟨⟨oc, od, kV, doc, pm, an, cdv, ct, osl, rfl, lk, hcd⟩, F.kp⟩
  · exact absurd rfl e
theorem at_fun {K : PySem.W.Frag} {mg : Str → Option Value} {x : Str} {st : Stmt} {ps : List Str} {f : Addr} {fd : FuncData} (g : mg x = some (.ref f)) (F : FunD K x x (defArgs st) (defBody st) (defScope st) [] [] f fd) (b : Binds K fd ps []) : At K mg x st ps := ⟨f, fd, g, fun_of F, b⟩
end L2
/-! LE: a law's end where the def that is asked may lean on how it is called (no guard is up). -/
namespace L2E
open PySem PySem.Spec PyProof.Rows L2 LamX
abbrev tabO : Obj := { cls := .none, data := .fields #[] }
abbrev lstO (vs : List Value) : Obj := { cls := .type "list", data := .seq vs.toArray }
section
variable {P : Program} {w : World} {K : PySem.W.Frag} {mg mb : Str → Option Value} {fa a : Addr} {cs : List (Addr × Addr)} {s1 : Shared} {vs : List Value} {ns : List Int}
/-- a first abstract heap: the script, locked, unless it stands in K; the tables -/
def h0 (K : PySem.W.Frag) (a : Addr) (vs : List Value) (ns : List Int) (tb : List Addr) : Hp := fun b =>
  if b ∈ tb then some (.tbl #[]) else if b = a ∧ K.lookup a = none then some (.frz (lstO vs) (.lst (ns.map V.int))) else none
theorem h0_inv {tb : List Addr} {b : Addr} {u : HO} (e : h0 K a vs ns tb b = some u) : (b ∈ tb ∧ u = .tbl #[]) ∨ (b = a ∧ K.lookup a = none ∧ u = .frz (lstO vs) (.lst (ns.map V.int))) := by
  unfold h0 at e
  split at e
  · rename_i m; cases e; exact .inl ⟨m, rfl⟩
  · split at e
    · rename_i m; cases e; exact .inr ⟨m.1, m.2, rfl⟩
    · cases e
theorem h0_seq {tb : List Addr} (KX : K.In s1.heap) (ha : s1.heap.get? a = some (lstO vs)) (na : a ∉ tb) (hi : IntsAre vs ns) (hl : ns.length ≤ sizeLine) : SqL K (h0 K a vs ns tb) a (ns.map V.int) := by
  have rv := vals_ints hi
  cases q : K.lookup a with
  | none => exact .inl (.inr ⟨lstO vs, by unfold h0; rw [if_neg na, if_pos ⟨rfl, q⟩]⟩)
  | some o =>
    have z := KX a o q
    rw [ha] at z
    cases z
    exact .inr ⟨_, vs.toArray, _, q, rfl, rfl, rfl, by rw [List.size_toArray, hi.length]; exact hl, by simpa using rv⟩
/-- what the caller wants: True, and all that stood stands -/
def Wanted (s1 : Shared) (r : Result) (s2 : Shared) : Prop := r = .ok (.ret (.bool true)) ∧ OldK s1.heap s2.heap ∧ s2.os = s1.os ∧ AllBare s2.gens
theorem law_callG (KX : K.In s1.heap) (G0 : s1.heap.Ns mainGlobals mg) (B0 : s1.heap.Ns builtinsNs mb) (B1 : ∀ x : Str, x ≠ "__name__" → mb x = bootBuiltins x) (nl : s1.heap.NoLimit) (g0 : s1.gens = #[])
    (tabs : ∀ q ∈ cs, s1.heap.get? q.2 = some tabO) (notK : ∀ q ∈ cs, K.lookup q.2 = none) (codes : ∀ q ∈ cs, PySem.W.CodeHd s1.heap q.1 q.2)
    (main : ∃ (M : Addr) (o : Obj), mg "__builtins__" = some (.ref M) ∧ M ≠ builtinsNs ∧ s1.heap.get? M = some o ∧ o.cls = .type "module" ∧ o.dict = some builtinsNs ∧ o.data = .plain)
    (ha : s1.heap.get? a = some (lstO vs)) (hi : IntsAre vs ns) (hl : ns.length ≤ sizeLine)
    (F : ∀ (base : Heap) (H : Hp), K.In base → base.Ns mainGlobals mg → (∀ q ∈ cs, TabB base mg q.1 q.2) → Env0 P w K mg base callerA [] s1 H → (∀ q ∈ cs, H q.2 = some (.tbl #[])) → SqL K H a (ns.map V.int) →
      codeAny (model P w) callerA (.call (.ref fa) ⟨[.ref a], []⟩) (CR C8.CX0 [] P w H s1 (fun v _ => v = .bl true) fun _ _ _ => False) s1) :
    codeAny (model P w) callerA (.call (.ref fa) ⟨[.ref a], []⟩) (Wanted s1) s1 := by
  generalize htb : cs.map Prod.snd = tb
  have inTb : ∀ q ∈ cs, q.2 ∈ tb := fun q hq => by rw [← htb]; exact List.mem_map_of_mem hq
  have ofTb : ∀ b ∈ tb, ∃ q ∈ cs, q.2 = b := fun b hb => by rw [← htb] at hb; simpa using hb
  have atTb : ∀ b ∈ tb, s1.heap.get? b = some tabO := fun b hb => (ofTb b hb).elim fun q h => h.2 ▸ tabs q h.1
  have na : a ∉ tb := fun m => by
    have z := atTb a m
    rw [ha] at z; cases z
  generalize hH : h0 K a vs ns tb = H
  have seqA : SqL K H a (ns.map V.int) := hH ▸ h0_seq KX ha na hi hl
  have inv : ∀ {b u}, H b = some u → (b ∈ tb ∧ u = .tbl #[]) ∨ (b = a ∧ K.lookup a = none ∧ u = .frz (lstO vs) (.lst (ns.map V.int))) := fun {b u} e => h0_inv (hH ▸ e)
  have tbH : ∀ b ∈ tb, H b = some (.tbl #[]) := fun b m => by rw [← hH]; exact if_pos m
  -- what is neither a list nor an empty table is not tracked
  have out : ∀ {b : Addr} {o : Obj}, s1.heap.get? b = some o → (∀ xs k, o.data ≠ .seq xs k) → o.data ≠ .fields #[] → H b = none := fun {b o} e d1 d2 => by
    cases q : H b with
    | none => rfl
    | some u =>
      rcases inv q with ⟨m, _⟩ | ⟨rfl, _⟩
      · rw [atTb b m] at e; cases e; exact absurd rfl d2
      · rw [ha] at e; cases e; exact absurd rfl (d1 _ _)
  have up : ∀ {b : Addr} {o : Obj}, s1.heap.get? b = some o → H b = none → (hidT s1.heap H).get? b = some o := hidT_get
  have dictOut : ∀ {b : Addr} {o : Obj} {es : Array DictEntry} {k : Nat}, s1.heap.get? b = some o → o.data = .dict es k → H b = none := fun e d =>
    out e (fun xs k z => by rw [d] at z; cases z) fun z => by rw [d] at z; cases z
  have nsUp : ∀ {b : Addr} {m : Str → Option Value}, s1.heap.Ns b m → (hidT s1.heap H).Ns b m := fun n => by
    obtain ⟨o, es, k, e, d, r⟩ := n
    exact ⟨o, es, k, up e (dictOut e d), d, r⟩
  have inK : K.In (hidT s1.heap H) := fun b o e => up (KX b o e) <| by
    cases q : H b with
    | none => rfl
    | some u =>
      rcases inv q with ⟨m, _⟩ | ⟨rfl, z, _⟩
      · obtain ⟨t, ht, rfl⟩ := ofTb b m
        rw [notK t ht] at e; cases e
      · rw [z] at e; cases e
  have modK : L2.Mod K mg (hidT s1.heap H) := by
    obtain ⟨L, n1, n2⟩ := nl
    exact ⟨inK, nsUp G0, ⟨mb, nsUp B0, B1⟩, ⟨L, nsUp n1, n2⟩⟩
  have tabB : ∀ q ∈ cs, TabB (hidT s1.heap H) mg q.1 q.2 := fun q hq => by
    refine ⟨?_, ?_, fun z => ?_⟩
    · obtain ⟨o, x1, x2, x3, x4, x5, x6, x7, x8, e, y1, y2, y3, y4, y5, y6, y7, y8, y9⟩ := codes q hq
      refine ⟨o, x1, x2, x3, x4, x5, x6, x7, x8, up e (out e (fun xs k z => ?_) fun z => ?_), y1, y2, y3, y4, y5, y6, y7, y8, y9⟩
      · rw [y2] at z; cases z
      · rw [y2] at z; cases z; simp at y3
    · obtain ⟨M, o, m1, m2, m3, m4, m5, m6⟩ := main
      refine ⟨M, o, m1, m2, fun z => ?_, fun z => ?_, up m3 (out m3 (fun xs k z => ?_) fun z => ?_), m4, m5, m6⟩
      · obtain ⟨o2, es, k, e, d, _⟩ := G0
        rw [z, e] at m3; cases m3; rw [d] at m6; cases m6
      · rw [z, tabs q hq] at m3; cases m3; cases m6
      · rw [m6] at z; cases z
      · rw [m6] at z; cases z
    · obtain ⟨o2, es, k, e, d, _⟩ := G0
      rw [z, tabs q hq] at e; cases e; cases d
  have okH : HOk P w H s1.heap := fun b u e => by
    rcases inv e with ⟨m, rfl⟩ | ⟨rfl, _, rfl⟩
    · exact atTb b m
    · exact ⟨ha, by rw [List.length_map]; exact hl, vs, _, vals_ints hi, ha⟩
  have env : Env0 P w K mg (hidT s1.heap H) callerA [] s1 H :=
    ⟨rfl, modK, fun b o e => of_hidT e, Nat.le_of_eq (hidT_size _ _), trivial, fun b hb => absurd (show b ∈ ([] : List Addr) from hb) List.not_mem_nil, okH, .of_eq g0⟩
  refine codeAny_mono (F _ H inK (nsUp G0) tabB env (fun q hq => tbH _ (inTb q hq)) seqA) fun r s2 h => ?_
  match r, h with
  | .error e, h => exact (show False from h).elim
  | .ok .next, h => exact (show False from h).elim
  | .ok .brk, h => exact (show False from h).elim
  | .ok .cont, h => exact (show False from h).elim
  | .ok (.ret u), h =>
    obtain ⟨v, H2, os2, bare2, un2, ok2, rel2, hv⟩ := h
    obtain rfl : v = .bl true := hv
    obtain rfl : u = Value.bool true := rel2
    have still : ∀ b o, b ∉ tb → s1.heap.get? b = some o → s2.heap.get? b = some o := fun b o nb e => by
      cases q : H b with
      | none => exact un2.keep b o e q (fun z => absurd (show b ∈ ([] : List Addr) from z) List.not_mem_nil) List.not_mem_nil
      | some u =>
        rcases inv q with ⟨m, _⟩ | ⟨rfl, _, rfl⟩
        · exact absurd m nb
        · obtain ⟨z1, _⟩ := okH b _ q
          obtain ⟨z2, _⟩ := ok2 b _ (un2.frzs b _ _ q)
          rw [e] at z1; cases z1; exact z2
    have longer : ∀ b ∈ tb, ∃ xs : Array Value, s2.heap.get? b = some { cls := .none, data := .fields xs } := fun b m =>
      (un2.tbls b #[] (tbH b m)).elim fun xs z => ⟨_, ok2 b _ z⟩
    refine ⟨rfl, ⟨fun b o e => ?_, fun b o e => ?_⟩, os2, bare2⟩
    · by_cases m : b ∈ tb
      · obtain ⟨q, hq, rfl⟩ := ofTb b m
        obtain ⟨xs, z⟩ := longer _ m
        rw [tabs q hq] at e; cases e
        exact .inr (.inl ⟨((codes q hq).tab (tabs q hq)).isCodeTable, rfl, #[], xs, rfl, by rw [Array.empty_append]; exact z⟩)
      · exact .inl (still b o m e)
    · by_cases m : b ∈ tb
      · exact (longer b m).elim fun xs z => ⟨_, z⟩
      · exact ⟨o, still b o m e⟩
end
/-- what is known of the law at the head's heap h -/
def LawG (l : PySem.W.OpenLaw) (w : World) (K : PySem.W.Frag) (n : Nat) (mg : Str → Option Value) (fa : Addr) (h : Heap) : Prop :=
  ∃ cs : List (Addr × Addr), (∀ q ∈ cs, h.get? q.2 = some tabO) ∧ (∀ q ∈ cs, K.lookup q.2 = none) ∧ (∀ q ∈ cs, PySem.W.CodeHd h q.1 q.2) ∧
    ∀ (s1 : Shared) (a : Addr) (ns : List Int) (base : Heap) (H : Hp), ns.length ≤ n → (∀ z ∈ ns, Builtin.Int.intBits z ≤ 1048576) → K.In base → base.Ns mainGlobals mg → (∀ q ∈ cs, TabB base mg q.1 q.2) → Env0 l.prog w K mg base callerA [] s1 H → (∀ q ∈ cs, H q.2 = some (.tbl #[])) → SqL K H a (ns.map V.int) →
      codeAny (model l.prog w) callerA (.call (.ref fa) ⟨[.ref a], []⟩) (CR C8.CX0 [] l.prog w H s1 (fun v _ => v = .bl true) fun _ _ _ => False) s1
theorem walk_ofG {l : PySem.W.OpenLaw} {n : Nat} {q : Program} {loose : List Str} {XP : (Str → Option Value) → Heap → Prop} {YP : World → Heap → Prop} {d : DefRec}
    (hn : l.most = some n) (hn2 : n ≤ sizeLine) (hdf : d.params.defaults = [])
    (F : ∀ (w : World) (mg : Str → Option Value) (fa : Addr) (h : Heap), YP w h → h.Ns mainGlobals mg → mg d.name = some (.ref fa) → ∃ K : PySem.W.Frag, K.In h ∧ LawG l w K n mg fa h) :
    PySem.W.WalkO q loose XP YP l.row.toRowW d [] (fun f vs => PySem.call f vs) := by
  refine Att.attach_callB hn hdf fun w z0 z1 mg mb fa o pm cd doc a vs ns G Y ho hd hcd hm hobj hints hlen hbits hgens => ?_
  obtain ⟨K, inK, cs, c1, c2, c3, run⟩ := F w mg fa _ Y G.T.g hm
  exact law_callG inK G.T.g G.T.b G.T.builtins G.T.nolimit hgens c1 c2 c3 G.T.bmain hobj hints (Nat.le_trans hlen hn2) fun base H => run z1 a ns base H hlen hbits
end L2E
namespace K81
open PySem PySem.Spec PyProof.Rows L2
def top (i : Nat) : Stmt := PySem.Challenge.pw_leastequal_k81_code_made_and_refused.main.body.getD i (.Pass ⟨0, 0, 0, 0⟩)
abbrev s_BadNumber___init__ : Stmt := inClass (top 2) 0
abbrev s_BadInput___init__ : Stmt := inClass (top 3) 0
abbrev s_BadProgram___init__ : Stmt := inClass (top 4) 0
abbrev s_BadCode___init__ : Stmt := inClass (top 5) 0
abbrev s_Misfit___init__ : Stmt := inClass (top 6) 0
abbrev s_BadText___init__ : Stmt := inClass (top 7) 0
abbrev s_is_integer : Stmt := top 9
abbrev s_is_within : Stmt := top 10
abbrev s_need_number : Stmt := top 11
abbrev s_need_least : Stmt := top 12
abbrev s_fixed : Stmt := top 14
abbrev s_bits_up : Stmt := top 17
abbrev s_shape_of : Stmt := top 18
abbrev s_is_spelling : Stmt := top 23
abbrev s_is_name : Stmt := top 24
abbrev s_are_names : Stmt := top 37
abbrev s_block_called : Stmt := top 38
abbrev s_form_of : Stmt := top 39
abbrev s_is_item : Stmt := top 40
abbrev s_is_row : Stmt := top 41
abbrev s_leads_well : Stmt := top 42
abbrev s_are_rows : Stmt := top 43
abbrev s_is_function : Stmt := top 44
abbrev s_are_functions : Stmt := top 45
abbrev s_row_text : Stmt := top 46
abbrev s_text_of : Stmt := top 47
abbrev s_Code___init__ : Stmt := inClass (top 48) 0
abbrev s_Code___eq__ : Stmt := inClass (top 48) 1
abbrev s_Code___str__ : Stmt := inClass (top 48) 2
abbrev s_Code_read : Stmt := inClass (top 48) 3
abbrev s_integer_in : Stmt := top 49
abbrev s_CodeText___init__ : Stmt := inClass (top 50) 0
abbrev s_CodeText_refuse : Stmt := inClass (top 50) 1
abbrev s_CodeText_head : Stmt := inClass (top 50) 2
abbrev s_CodeText_need_item : Stmt := inClass (top 50) 3
abbrev s_CodeText_end_line : Stmt := inClass (top 50) 4
abbrev s_CodeText_word_line : Stmt := inClass (top 50) 5
abbrev s_CodeText_numbers_line : Stmt := inClass (top 50) 6
abbrev s_CodeText_names_line : Stmt := inClass (top 50) 7
abbrev s_CodeText_label : Stmt := inClass (top 50) 8
abbrev s_CodeText_row_line : Stmt := inClass (top 50) 9
abbrev s_CodeText_is_let : Stmt := inClass (top 50) 10
abbrev s_CodeText_function : Stmt := inClass (top 50) 11
abbrev s_CodeText_code : Stmt := inClass (top 50) 12
abbrev s__law_pen : Stmt := top 52
abbrev s__law_draw : Stmt := top 53
abbrev s__law_pick : Stmt := top 54
abbrev s__law_mixed : Stmt := top 55
abbrev s__law_plain : Stmt := top 56
abbrev s__law_blocks : Stmt := top 57
abbrev s__law_deed_rows : Stmt := top 58
abbrev s__law_heard : Stmt := top 59
abbrev s__law_bad_functions : Stmt := top 60
abbrev s__law_bad_rows : Stmt := top 61
abbrev s__law_let : Stmt := top 62
abbrev s_law : Stmt := top 63
def tab_SHAPES : List (Str × PyData) := [("add", .tuple [.str "word", .tuple [.str "word", .str "word"]]), ("sub", .tuple [.str "word", .tuple [.str "word", .str "word"]]), ("mul", .tuple [.str "word", .tuple [.str "word", .str "word"]]), ("and", .tuple [.str "word", .tuple [.str "word", .str "word"]]), ("or", .tuple [.str "word", .tuple [.str "word", .str "word"]]), ("xor", .tuple [.str "word", .tuple [.str "word", .str "word"]]), ("neg", .tuple [.str "word", .tuple [.str "word"]]), ("flip", .tuple [.str "word", .tuple [.str "word"]]), ("at", .tuple [.str "word", .tuple [.str "word"]]), ("if", .tuple [.str "word", .tuple [.str "truth", .str "word", .str "word"]]), ("eq", .tuple [.str "truth", .tuple [.str "word", .str "word"]]), ("lt", .tuple [.str "truth", .tuple [.str "word", .str "word"]]), ("less", .tuple [.str "truth", .tuple [.str "word", .str "word"]]), ("both", .tuple [.str "truth", .tuple [.str "truth", .str "truth"]]), ("either", .tuple [.str "truth", .tuple [.str "truth", .str "truth"]]), ("no", .tuple [.str "truth", .tuple [.str "truth"]])]
def tab_FORMS : List (Str × PyData) := [("number", .str "rn"), ("name", .str "rx"), ("true", .str "r"), ("false", .str "r"), ("open", .str ""), ("hand", .str "r"), ("store", .str "cr"), ("load", .str "rc"), ("spend", .str ""), ("keep", .str "xr"), ("ask", .str "x"), ("tell", .str "r"), ("put", .str "rr"), ("unless", .str "rw"), ("go", .str "w")]
/-- what the top has written -/
structure Tx (w : World) (K : PySem.W.Frag) (mg : Str → Option Value) : Prop where
  b_isinstance : mg "isinstance" = none
  b_int : mg "int" = none
  b_bool : mg "bool" = none
  b_str : mg "str" = none
  b_list : mg "list" = none
  b_tuple : mg "tuple" = none
  b_len : mg "len" = none
  b_all : mg "all" = none
  b_any : mg "any" = none
  b_range : mg "range" = none
  b_enumerate : mg "enumerate" = none
  b_zip : mg "zip" = none
  b_abs : mg "abs" = none
  b_repr : mg "repr" = none
  c_SHAPES : ∃ a, mg "SHAPES" = some (.ref a) ∧ KTab K w a tab_SHAPES
  c_LETTERS : ∃ t, mg "LETTERS" = some (.str "abcdefghijklmnopqrstuvwxyz" t)
  c_FIGURES : ∃ t, mg "FIGURES" = some (.str "0123456789" t)
  c_TRUTHS : ∃ a, mg "TRUTHS" = some (.ref a) ∧ ∀ H, Dx K H (.ref a) (.tuple [.str "true", .str "false"])
  c_MOST_ROUNDS : ∃ t, mg "MOST_ROUNDS" = some (.int 1000 t)
  c_LEAST_REGISTERS : ∃ t, mg "LEAST_REGISTERS" = some (.int 3 t)
  c_MOST_REGISTERS : ∃ t, mg "MOST_REGISTERS" = some (.int 16 t)
  c_MOST_CELL : ∃ t, mg "MOST_CELL" = some (.int 999 t)
  c_MOST_INTEGER : ∃ t, mg "MOST_INTEGER" = some (.int 2147483647 t)
  c_MOST_FUNCTIONS : ∃ t, mg "MOST_FUNCTIONS" = some (.int 8 t)
  c_MOST_NAMES : ∃ t, mg "MOST_NAMES" = some (.int 6 t)
  c_DIGITS : ∃ t, mg "DIGITS" = some (.str "0123456789" t)
  c_SPEND : ∃ a, mg "SPEND" = some (.ref a) ∧ ∀ H, Dx K H (.ref a) (.tuple [.str "spend"])
  c_FORMS : ∃ a, mg "FORMS" = some (.ref a) ∧ KTab K w a tab_FORMS
  c_DEEDS : ∃ a, mg "DEEDS" = some (.ref a) ∧ ∀ H, Dx K H (.ref a) (.tuple [.str "spend", .str "keep", .str "ask", .str "tell", .str "put", .str "unless", .str "go"])
end K81
namespace K81
open PySem PySem.Spec PyProof.Rows L2

def leD (lo : PyData) (i : Int) : Bool := match lo with
  | .int l => decide (l ≤ i)
  | _ => true
def geD (hi : PyData) (i : Int) : Bool := match hi with
  | .int h => decide (i ≤ h)
  | _ => true
def withinD (d lo hi : PyData) : Bool := match d with
  | .int i => leD lo i && geD hi i
  | _ => false
def optD : Option Int → PyData
  | none => .none
  | some i => .int i
def lettersL : List Nat := ("abcdefghijklmnopqrstuvwxyz" : Str).cps.toList
def figuresL : List Nat := ("0123456789" : Str).cps.toList
def spellL (l : List Nat) : Bool := match l with
  | [] => false
  | c :: r => decide ((c :: r).length ≤ 8) && decide (c ∈ lettersL) && (c :: r).all fun c => decide (c ∈ lettersL) || decide (c ∈ figuresL)
def spellD : PyData → Bool
  | .str x => spellL x.cps.toList
  | _ => false
def nameD (d : PyData) : Bool := spellD d && !([.str "true", .str "false"].any fun y => PyData.eqv y d)
section
variable {P : Program} {w : World} {K : PySem.W.Frag} {mg : Str → Option Value} {base : Heap}
def N_is_integer : List Str := ["value"]
theorem sc_is_integer : FnScope N_is_integer ["value"] (defScope s_is_integer) := ⟨rfl, rfl, rfl, by decide +kernel, rfl, by decide +kernel, by decide +kernel⟩
abbrev sp_is_integer (K : PySem.W.Frag) : Sp := spD K (fun ds => ∃ d, ds = [d]) (fun ds => match ds with | [d] => .bool (isIntD d) | _ => .none)
theorem ok_is_integer (A0 : At K mg "is_integer" s_is_integer ["value"]) (T : Tx w K mg) : Df P w K mg base "is_integer" 1 ["value"] (sp_is_integer K) := by
  refine df_pure A0 sc_is_integer ?_ (fun f cdv A outer s H E hr => ?_)
  · rintro ds hp; first | (obtain ⟨_, _, _, _, _, rfl, _⟩ := hp; rfl) | (obtain ⟨_, _, _, _, rfl, _⟩ := hp; rfl) | (obtain ⟨_, _, _, rfl, _⟩ := hp; rfl) | (obtain ⟨_, rfl⟩ := hp; rfl) | (obtain ⟨_, _, rfl⟩ := hp; rfl) | (obtain ⟨_, _, _, rfl⟩ := hp; rfl) | (obtain ⟨_, _, _, _, rfl⟩ := hp; rfl) | (obtain ⟨_, _, _, _, rfl, _⟩ := hp; rfl) | (obtain ⟨_, _, _, rfl, _⟩ := hp; rfl) | (obtain ⟨_, _, rfl, _⟩ := hp; rfl) | (obtain ⟨_, rfl, _⟩ := hp; rfl)
  have nd := sc_is_integer.nd
  refine ⟨_, (pss_one (ps_ret (pe_and (pe_callB (r := rIsi K) call_isi (by rfl) T.b_isinstance boot_isinstance (pa_cons (pv 0) (pa_cons (pe_bltn (v := .ty "int") (by rfl) T.b_int boot_int rfl) pa_nil))) (pe_one (pe_not (pe_callB (r := rIsi K) call_isi (by rfl) T.b_isinstance boot_isinstance (pa_cons (pv 0) (pa_cons (pe_bltn (v := .ty "bool") (by rfl) T.b_bool boot_bool rfl) pa_nil)))))))), fun Z G vs ds hv hp => ?_⟩
  obtain ⟨d, rfl⟩ := hp
  obtain ⟨v, rfl, dv⟩ := all1 hv
  refine sr_ret ((ev_andV (ev_isi rfl (.inl dv) (kb_int d)) fun _ => ev_notV (ev_isi rfl (.inl dv) (kb_bool d))).to ?_)
  cases d <;> simp [isIntD, isBoolD]
def N_is_within : List Str := ["value", "least", "most"]
theorem sc_is_within : FnScope N_is_within ["value", "least", "most"] (defScope s_is_within) := ⟨rfl, rfl, rfl, by decide +kernel, rfl, by decide +kernel, by decide +kernel⟩
abbrev sp_is_within (K : PySem.W.Frag) : Sp := spD K (fun ds => ∃ (d : PyData) (lo hi : Option Int), ds = [d, optD lo, optD hi]) (fun ds => match ds with | [d, lo, hi] => .bool (withinD d lo hi) | _ => .none)
theorem ok_is_within (A0 : At K mg "is_within" s_is_within ["value", "least", "most"]) (T : Tx w K mg) (D_is_integer : Df P w K mg base "is_integer" 1 ["value"] (sp_is_integer K)) : Df P w K mg base "is_within" 2 ["value", "least", "most"] (sp_is_within K) := by
  obtain ⟨f_is_integer, fd_is_integer, g_is_integer, kp_is_integer, b_is_integer, G_is_integer⟩ := D_is_integer
  refine df_pure A0 sc_is_within ?_ (fun f cdv A outer s H E hr => ?_)
  · rintro ds hp; first | (obtain ⟨_, _, _, _, _, rfl, _⟩ := hp; rfl) | (obtain ⟨_, _, _, _, rfl, _⟩ := hp; rfl) | (obtain ⟨_, _, _, rfl, _⟩ := hp; rfl) | (obtain ⟨_, rfl⟩ := hp; rfl) | (obtain ⟨_, _, rfl⟩ := hp; rfl) | (obtain ⟨_, _, _, rfl⟩ := hp; rfl) | (obtain ⟨_, _, _, _, rfl⟩ := hp; rfl) | (obtain ⟨_, _, _, _, rfl, _⟩ := hp; rfl) | (obtain ⟨_, _, _, rfl, _⟩ := hp; rfl) | (obtain ⟨_, _, rfl, _⟩ := hp; rfl) | (obtain ⟨_, rfl, _⟩ := hp; rfl)
  have nd := sc_is_within.nd
  refine ⟨_, (pss_cons (ps_if (pt_not (pt_val (pe_call G_is_integer (hr.mono (by decide)) (by rfl) g_is_integer kp_is_integer b_is_integer .nil pass0 (pa_cons (pv 0) pa_nil)))) (pss_one (ps_ret pe_bl)) pss_nil)
    (pss_cons (ps_if (PW.pt (pw_and (pt_cmpR op_notN (pv 1) pe_non (nomark _)) (pw_and1 (pt_cmpR op_lt (pv 0) (pv 1) (nomark _))))) (pss_one (ps_ret pe_bl)) pss_nil)
    (pss_one (ps_ret (pe_or (pe_cmpR op_isN (pv 2) pe_non (nomark _)) (pe_one (pe_cmpR op_le (pv 0) (pv 2) (nomark _)))))))), fun Z G vs ds hv hp => ?_⟩
  obtain ⟨d, lo, hi, rfl⟩ := hp
  obtain ⟨v, u, z, rfl, dv, du, dz⟩ := all3 hv
  refine sr_if (an_not (an_tB (ev_call (eva_cons (ev_var rfl dv) eva_nil) ⟨d, rfl⟩))) (fun e => sr_ret (ev_bl.to ?_)) fun e => ?_
  · cases d <;> first | rfl | (simp [isIntD] at e)
  have hd : ∃ i, d = .int i := by cases d <;> first | exact ⟨_, rfl⟩ | (simp [isIntD] at e)
  obtain ⟨i, rfl⟩ := hd
  have last : SR K Z (tRet (tOrV (tOp (fun x y H Q => y = .non ∧ Q (.bl (decide (x = .non))) H) (tVar 2) (tC .non)) (tOp (rI0 fun i j => .bl (decide (i ≤ j))) (tVar 0) (tVar 2)))) (start N_is_within [v, u, z]) G (.bool (geD (optD hi) i)) := by
    cases hi with
    | none => exact sr_ret ((ev_orV (b2 := false) (ev_op (ev_var rfl dz) ev_non rd_isN) fun e => by cases e).to (by simp [isNoneD, optD, geD]))
    | some h => exact sr_ret ((ev_orV (ev_op (ev_var rfl dz) ev_non rd_isN) fun e => ev_op (ev_var rfl dv) (ev_var rfl dz) (rd_i0 fun _ => .bl _)).to (by simp [isNoneD, optD, geD]))
  cases lo with
  | none =>
    refine sr_if (b := false) (an_and (b2 := false) (an_test (ev_op (ev_var rfl du) ev_non rd_notN)) fun e => by cases e) (fun e => by cases e) fun _ => ?_
    exact last
  | some l =>
    refine sr_if (an_and (an_test (ev_op (ev_var rfl du) ev_non rd_notN)) fun _ => an_test (ev_op (ev_var rfl dv) (ev_var rfl du) (rd_i0 fun _ => .bl _))) (fun e => sr_ret (ev_bl.to ?_)) fun e => ?_
    · have h : i < l := by simpa [isNoneD, optD] using e
      show PyData.bool false = .bool (decide (l ≤ i) && geD (optD hi) i)
      rw [decide_eq_false (by omega), Bool.false_and]
    · have h : l ≤ i := by simpa [isNoneD, optD] using e
      have e2 : withinD (.int i) (optD (some l)) (optD hi) = geD (optD hi) i := by
        show (decide (l ≤ i) && geD (optD hi) i) = _
        rw [decide_eq_true h, Bool.true_and]
      show SR K Z _ _ G (.bool (withinD (.int i) (optD (some l)) (optD hi)))
      rw [e2]
      exact last
end
end K81
namespace K81
open PySem PySem.Spec PyProof.Rows L2

theorem lp_list {xs : List PyData} {n : Nat} (h : (PyData.list xs).depth ≤ n) : ∃ m, n = m + 1 ∧ ∀ x ∈ xs, x.depth ≤ m := by
  cases n with
  | zero => simp [PyData.depth] at h
  | succ m => exact ⟨m, rfl, depth_list.mp h⟩
theorem lp_tuple {xs : List PyData} {n : Nat} (h : (PyData.tuple xs).depth ≤ n) : ∃ m, n = m + 1 ∧ ∀ x ∈ xs, x.depth ≤ m := by
  cases n with
  | zero => simp [PyData.depth] at h
  | succ m => exact ⟨m, rfl, depth_tuple.mp h⟩
section
variable {P : Program} {w : World} {K : PySem.W.Frag} {mg : Str → Option Value} {base : Heap}
def N_fixed : List Str := ["value", "part"]
theorem sc_fixed : FnScope N_fixed ["value"] (defScope s_fixed) := ⟨rfl, rfl, rfl, by decide +kernel, rfl, by decide +kernel, by decide +kernel⟩
abbrev sp_fixed (n : Nat) (K : PySem.W.Frag) : Sp := spD K (fun ds => ∃ d, ds = [d] ∧ smallD d = true ∧ d.depth ≤ n) (fun ds => match ds with | [d] => fixD d | _ => .none)
theorem ok_fixed (A0 : At K mg "fixed" s_fixed ["value"]) (T : Tx w K mg) (n : Nat) : Df P w K mg base "fixed" (n + 1) ["value"] (sp_fixed n K) := by
  have nd := sc_fixed.nd
  induction n with
  | zero =>
    refine df_pure A0 sc_fixed (fun ds hp => ?_) (fun f cdv A outer s H E hr => ?_)
    · obtain ⟨d, rfl, _⟩ := hp; rfl
    refine ⟨_, (pss_cons (ps_if (pt_val (pe_callB (r := rIsiT K) call_isiT (by rfl) T.b_isinstance boot_isinstance (pa_cons (pv 0) (pa_cons (pe_tup (pa_cons (pe_bltn (v := .ty "list") (by rfl) T.b_list boot_list rfl) (pa_cons (pe_bltn (v := .ty "tuple") (by rfl) T.b_tuple boot_tuple rfl) pa_nil))) pa_nil)))) (pss_one (ps_ret (pe_callTy (r := fun xs H Q => ∃ p ys, xs = [.ref p] ∧ ((SqL K H p ys ∧ ∀ l, H l = none → Q (.ref l) (upd H l (.tup ys))) ∨ (SqT K H p ys ∧ Q (.ref p) H))) call_tuple_of (by rfl) T.b_tuple boot_tuple (pa_cons (pe_lc (own := [("part", 1)]) rfl nd (PI.or (pi_list (pv 0)) (pi_tup (pv 0))) (blkOk_by (N := N_fixed) (sc := defScope s_fixed) (by decide +kernel)) (fun _ _ _ _ _ => (pg_name (i := 1) nd rfl (Or.inl rfl))) (fun _ _ _ _ _ => pts_nil) (fun _ _ _ _ _ => pe_never)) pa_nil)))) pss_nil)
    (pss_one (ps_ret (pv 0)))), fun Z G vs ds hv hp => ?_⟩
    obtain ⟨d, rfl, hs, hd⟩ := hp
    obtain ⟨v, rfl, dv⟩ := all1 hv
    have h1 : isListD d = false := by
      cases d <;> first | rfl | (obtain ⟨m, e, _⟩ := lp_list hd; cases e)
    have h2 : isTupD d = false := by
      cases d <;> first | rfl | (obtain ⟨m, e, _⟩ := lp_tuple hd; cases e)
    refine sr_if (an_tB (ev_isi2 rfl (.inl dv) (kb_list d) (kb_tuple d))) (fun e => ?_) fun e => sr_ret ((ev_var rfl dv).to (fixD_leaf h1 h2).symm)
    rw [h1, h2] at e; cases e
  | succ n ih =>
    obtain ⟨f_fixed, fd_fixed, g_fixed, kp_fixed, b_fixed, G_fixed⟩ := ih
    refine df_pure A0 sc_fixed (fun ds hp => ?_) (fun f cdv A outer s H E hr => ?_)
    · obtain ⟨d, rfl, _⟩ := hp; rfl
    refine ⟨_, (pss_cons (ps_if (pt_val (pe_callB (r := rIsiT K) call_isiT (by rfl) T.b_isinstance boot_isinstance (pa_cons (pv 0) (pa_cons (pe_tup (pa_cons (pe_bltn (v := .ty "list") (by rfl) T.b_list boot_list rfl) (pa_cons (pe_bltn (v := .ty "tuple") (by rfl) T.b_tuple boot_tuple rfl) pa_nil))) pa_nil)))) (pss_one (ps_ret (pe_callTy (r := fun xs H Q => ∃ p ys, xs = [.ref p] ∧ ((SqL K H p ys ∧ ∀ l, H l = none → Q (.ref l) (upd H l (.tup ys))) ∨ (SqT K H p ys ∧ Q (.ref p) H))) call_tuple_of (by rfl) T.b_tuple boot_tuple (pa_cons (pe_lc (own := [("part", 1)]) rfl nd (PI.or (pi_list (pv 0)) (pi_tup (pv 0))) (blkOk_by (N := N_fixed) (sc := defScope s_fixed) (by decide +kernel)) (fun _ _ _ _ _ => (pg_name (i := 1) nd rfl (Or.inl rfl))) (fun _ _ _ _ _ => pts_nil) (fun _ _ _ _ _ => (pe_call G_fixed hr (by rfl) g_fixed kp_fixed b_fixed .nil pass0 (pa_cons (pv 1) pa_nil)))) pa_nil)))) pss_nil)
    (pss_one (ps_ret (pv 0)))), fun Z G vs ds hv hp => ?_⟩
    obtain ⟨d, rfl, hs, hd⟩ := hp
    obtain ⟨v, rfl, dv⟩ := all1 hv
    refine sr_if (an_tB (ev_isi2 rfl (.inl dv) (kb_list d) (kb_tuple d))) (fun e => ?_) fun e => sr_ret ((ev_var rfl dv).to ?_)
    · cases d with
      | list xs =>
        obtain ⟨hl, hx⟩ := small_list hs
        have hd' := depth_list.mp hd
        refine sr_ret (Ev.to ?_ (fixD_list xs).symm)
        refine ev_cb (eva_cons (ev_lc (f := fixD) (evi_orL (evi_list (ev_var rfl dv))) (line1000 hl) fun Z' i d G' hi s => eg_name fun u G2 s2 du => ⟨rfl, ?_⟩) eva_nil) rc_tupL
        exact ev_call (eva_cons (ev_var rfl du) eva_nil) ⟨d, rfl, hx d (List.mem_of_getElem? hi), hd' d (List.mem_of_getElem? hi)⟩
      | tuple xs =>
        obtain ⟨hl, hx⟩ := small_tuple hs
        have hd' := depth_tuple.mp hd
        refine sr_ret (Ev.to ?_ (fixD_tuple xs).symm)
        refine ev_cb (eva_cons (ev_lc (f := fixD) (evi_orR (evi_tup (ev_var rfl dv))) (line1000 hl) fun Z' i d G' hi s => eg_name fun u G2 s2 du => ⟨rfl, ?_⟩) eva_nil) rc_tupL
        exact ev_call (eva_cons (ev_var rfl du) eva_nil) ⟨d, rfl, hx d (List.mem_of_getElem? hi), hd' d (List.mem_of_getElem? hi)⟩
      | _ => cases e
    · cases d <;> first | rfl | (cases e; done)

/-- the label shl k as the program makes it -/
def shlS (k : Int) : Str := (Str.empty ++ ("shl " : Str)) ++ (toString k : Str)
def shlIs (x : Str) (d : PyData) : Bool := match d with
  | .int k => decide (x = shlS k)
  | _ => false
def bitsUp (x : Str) : PyData := match (rngD 1 31).find? (shlIs x) with
  | some d => d
  | none => .int 0
theorem shlS_small {k : Nat} (h : k < 31) : (shlS (1 + (k : Int))).length ≤ 100 ∧ ((1 + (k : Int)).natAbs.log2 < 1920) := by
  have h : ∀ k : Fin 31, (shlS (1 + ((k : Nat) : Int))).length ≤ 100 ∧ ((1 + ((k : Nat) : Int)).natAbs.log2 < 1920) := by decide +kernel
  exact h ⟨k, ‹_›⟩
def N_bits_up : List Str := ["label", "k"]
theorem sc_bits_up : FnScope N_bits_up ["label"] (defScope s_bits_up) := ⟨rfl, rfl, rfl, by decide +kernel, rfl, by decide +kernel, by decide +kernel⟩
abbrev sp_bits_up (K : PySem.W.Frag) : Sp := spD K (fun ds => ∃ x : Str, ds = [.str x]) (fun ds => match ds with | [.str x] => bitsUp x | _ => .none)
theorem ok_bits_up (A0 : At K mg "bits_up" s_bits_up ["label"]) (T : Tx w K mg) : Df P w K mg base "bits_up" 1 ["label"] (sp_bits_up K) := by
  refine df_pure A0 sc_bits_up ?_ (fun f cdv A outer s H E hr => ?_)
  · rintro ds hp; first | (obtain ⟨_, _, _, _, _, rfl, _⟩ := hp; rfl) | (obtain ⟨_, _, _, _, rfl, _⟩ := hp; rfl) | (obtain ⟨_, _, _, rfl, _⟩ := hp; rfl) | (obtain ⟨_, rfl⟩ := hp; rfl) | (obtain ⟨_, _, rfl⟩ := hp; rfl) | (obtain ⟨_, _, _, rfl⟩ := hp; rfl) | (obtain ⟨_, _, _, _, rfl⟩ := hp; rfl) | (obtain ⟨_, _, _, _, rfl, _⟩ := hp; rfl) | (obtain ⟨_, _, _, rfl, _⟩ := hp; rfl) | (obtain ⟨_, _, rfl, _⟩ := hp; rfl) | (obtain ⟨_, rfl, _⟩ := hp; rfl)
  have nd := sc_bits_up.nd
  refine ⟨_, (pss_cons (ps_for PassesOwn.never rfl (pi_range2 (by rfl) T.b_range (pa_cons pe_int (pa_cons pe_int pa_nil))) (pg_name (i := 1) nd rfl (Or.inl rfl)) (pss_one (ps_if (pt_cmpR op_eq (pv 0) (pe_joined (.cons pe_str (.cons (pe_fmt (pv 1)) .nil))) (nomark _)) (pss_one (ps_ret (pv 1))) pss_nil)))
    (pss_one (ps_ret pe_int))), fun Z G vs ds hv hp => ?_⟩
  obtain ⟨x, rfl⟩ := hp
  obtain ⟨v, rfl, dv⟩ := all1 hv
  refine sr_for (p := shlIs x) (r := fun d => d) (S := fun σ => ∃ u, σ = [some v, u]) (evi_rng2 (n := 1) (m := 32) (eva_cons ev_int (eva_cons ev_int eva_nil)) (by decide)) ⟨none, rfl⟩ ?_ ?_
  · rintro i d σ1 G' hd ⟨u, rfl⟩ s
    have hi : i < 31 := by
      have := (List.getElem?_eq_some_iff.mp hd).1
      rwa [rngD_length] at this
    have e1 := rngD_get (lo := 1) (n := 31) hi
    have hd' : (rngD 1 31)[i]? = some d := hd
    rw [e1] at hd'
    cases hd'
    obtain ⟨h1, h2⟩ := shlS_small hi
    refine eg_name fun k G2 s2 dk => bb_if (an_test (ev_op (ev_var rfl (Dx.same (s.trans s2) _ _ dv)) (ev_join (evj_cons ev_str (by decide +kernel) (evj_cons (ev_fmtI (ev_var rfl dk) h2) ?_ evj_nil))) rd_eqS)) (fun _ => sr_ret (ev_var rfl dk)) ⟨_, rfl⟩
    exact Nat.le_trans h1 (by rw [sizeLine_eq]; decide)
  · intro σ1 G' _ _ _
    exact sr_ret ev_int

def bitsI (x : Str) : Int := match bitsUp x with
  | .int k => k
  | _ => 0
theorem bitsUp_int (x : Str) : bitsUp x = .int (bitsI x) := by
  unfold bitsI
  have h : ∃ k, bitsUp x = .int k := by
    unfold bitsUp
    split
    · rename_i d e
      have hm := List.mem_of_find?_eq_some e
      unfold rngD at hm
      obtain ⟨i, _, e2⟩ := List.mem_map.mp hm
      exact ⟨_, e2.symm⟩
    · exact ⟨0, rfl⟩
  obtain ⟨k, e⟩ := h
  rw [e]
def shapeD (d : PyData) : PyData := match d with
  | .str x => (match tab_SHAPES.lookup x with
    | some s => s
    | none => if decide (0 < bitsI x) = true then .tuple [.str "word", .tuple [.str "word"]] else .none)
  | _ => .none
def N_shape_of : List Str := ["label"]
theorem sc_shape_of : FnScope N_shape_of ["label"] (defScope s_shape_of) := ⟨rfl, rfl, rfl, by decide +kernel, rfl, by decide +kernel, by decide +kernel⟩
abbrev sp_shape_of (K : PySem.W.Frag) : Sp := spD K (fun ds => ∃ d, ds = [d] ∧ smallD d = true) (fun ds => match ds with | [d] => shapeD d | _ => .none)
theorem ok_shape_of (A0 : At K mg "shape_of" s_shape_of ["label"]) (T : Tx w K mg) (D_bits_up : Df P w K mg base "bits_up" 1 ["label"] (sp_bits_up K)) : Df P w K mg base "shape_of" 2 ["label"] (sp_shape_of K) := by
  obtain ⟨a_SHAPES, g_SHAPES, h_SHAPES⟩ := T.c_SHAPES
  have r_SHAPES : RelV (.ref a_SHAPES) (.ref a_SHAPES) := rfl
  obtain ⟨f_bits_up, fd_bits_up, g_bits_up, kp_bits_up, b_bits_up, G_bits_up⟩ := D_bits_up
  obtain ⟨⟨es_SHAPES, n_SHAPES, D_SHAPES⟩, _⟩ := id h_SHAPES
  refine df_pure A0 sc_shape_of ?_ (fun f cdv A outer s H E hr => ?_)
  · rintro ds hp; first | (obtain ⟨_, _, _, _, _, rfl, _⟩ := hp; rfl) | (obtain ⟨_, _, _, _, rfl, _⟩ := hp; rfl) | (obtain ⟨_, _, _, rfl, _⟩ := hp; rfl) | (obtain ⟨_, rfl⟩ := hp; rfl) | (obtain ⟨_, _, rfl⟩ := hp; rfl) | (obtain ⟨_, _, _, rfl⟩ := hp; rfl) | (obtain ⟨_, _, _, _, rfl⟩ := hp; rfl) | (obtain ⟨_, _, _, _, rfl, _⟩ := hp; rfl) | (obtain ⟨_, _, _, rfl, _⟩ := hp; rfl) | (obtain ⟨_, _, rfl, _⟩ := hp; rfl) | (obtain ⟨_, rfl, _⟩ := hp; rfl)
  have nd := sc_shape_of.nd
  refine ⟨_, (pss_cons (ps_if (pt_not (pt_val (pe_callB (r := rIsi K) call_isi (by rfl) T.b_isinstance boot_isinstance (pa_cons (pv 0) (pa_cons (pe_bltn (v := .ty "str") (by rfl) T.b_str boot_str rfl) pa_nil))))) (pss_one (ps_ret pe_non)) pss_nil)
    (pss_cons (ps_if (pt_cmpR (op_in_kd D_SHAPES) (pv 0) (pe_glob (by rfl) g_SHAPES r_SHAPES) (by rfl)) (pss_one (ps_ret (pe_ix (r := rIxD K w) ix_kdict (pe_glob (by rfl) g_SHAPES r_SHAPES) (pv 0) (fun _ _ => rfl)))) pss_nil)
    (pss_one (ps_ret (pe_ifExp (pt_cmpR op_gt (pe_call G_bits_up (hr.mono (by decide)) (by rfl) g_bits_up kp_bits_up b_bits_up .nil pass0 (pa_cons (pv 0) pa_nil)) pe_int (nomark _)) (pe_tup (pa_cons pe_str (pa_cons (pe_tup (pa_cons pe_str pa_nil)) pa_nil))) pe_non))))), fun Z G vs ds hv hp => ?_⟩
  obtain ⟨d, rfl, hs⟩ := hp
  obtain ⟨v, rfl, dv⟩ := all1 hv
  refine sr_if (an_not (an_tB (ev_isi rfl (.inl dv) (kb_str d)))) (fun e => sr_ret (ev_non.to ?_)) fun e => ?_
  · cases d <;> first | rfl | (cases e; done)
  have hd : ∃ x, d = .str x := by cases d <;> first | exact ⟨_, rfl⟩ | (cases e; done)
  obtain ⟨x, rfl⟩ := hd
  have hT := h_SHAPES
  refine sr_if (an_test (ev_inKT h_SHAPES (ev_var rfl dv))) (fun e => sr_ret ?_) fun e => sr_ret ?_
  · cases q : tab_SHAPES.lookup x with
    | none => rw [q] at e; cases e
    | some s => exact (ev_ixKT h_SHAPES (ev_var rfl dv) q).to (by show s = shapeD (.str x); unfold shapeD; simp only [q])
  · have q : tab_SHAPES.lookup x = none := by
      cases q : tab_SHAPES.lookup x with
      | none => rfl
      | some s => rw [q] at e; cases e
    refine ev_if (b := decide (0 < bitsI x)) (an_test (ev_op ((ev_call (eva_cons (ev_var rfl dv) eva_nil) ⟨x, rfl⟩).to (bitsUp_int x)) ev_int (rd_i0 fun _ => .bl _))) (fun e2 => ?_) fun e2 => ?_
    · refine (ev_tup (eva_cons ev_str (eva_cons (ev_tup (eva_cons ev_str eva_nil) (by decide +kernel)) eva_nil)) (by decide +kernel)).to ?_
      show _ = shapeD (.str x)
      unfold shapeD
      simp only [q, e2, if_true]
    · refine ev_non.to ?_
      show _ = shapeD (.str x)
      unfold shapeD
      simp only [q, e2]
      rfl
end
end K81
namespace K81
open PySem PySem.Spec PyProof.Rows L2

section
variable {P : Program} {w : World} {K : PySem.W.Frag} {mg : Str → Option Value} {base : Heap}
theorem not_str {d : PyData} (h : isStrD d = false) : spellD d = false := by cases d <;> first | rfl | (cases h; done)
theorem is_str {d : PyData} (h : isStrD d = true) : ∃ x, d = .str x := by cases d <;> first | exact ⟨_, rfl⟩ | (cases h; done)
theorem is_tup {d : PyData} (h : isTupD d = true) : ∃ xs, d = .tuple xs := by cases d <;> first | exact ⟨_, rfl⟩ | (cases h; done)
theorem signs_all (x : Str) (p : PyData → Bool) : (signsD x).all p = x.cps.toList.all fun c => p (.str ⟨#[c]⟩) := by unfold signsD; rw [List.all_map]; rfl
theorem atI_zero {α : Type} {c : α} {r : List α} : atI (c :: r) 0 = some c := by simp [atI, ixN]
theorem signs_len (x : Str) : (signsD x).length = x.length := by unfold signsD; rw [List.length_map, Array.length_toList]; rfl

def signOk : PyData → Bool
  | .str x => (match x.cps.toList with | [c] => decide (c ∈ lettersL) || decide (c ∈ figuresL) | _ => false)
  | _ => false
def N_is_spelling : List Str := ["value", "sign"]
theorem sc_is_spelling : FnScope N_is_spelling ["value"] (defScope s_is_spelling) := ⟨rfl, rfl, rfl, by decide +kernel, rfl, by decide +kernel, by decide +kernel⟩
abbrev sp_is_spelling (K : PySem.W.Frag) : Sp := spD K (fun ds => ∃ d, ds = [d] ∧ smallD d = true) (fun ds => match ds with | [d] => .bool (spellD d) | _ => .none)
theorem ok_is_spelling (A0 : At K mg "is_spelling" s_is_spelling ["value"]) (T : Tx w K mg) : Df P w K mg base "is_spelling" 1 ["value"] (sp_is_spelling K) := by
  obtain ⟨t_LETTERS, g_LETTERS⟩ := T.c_LETTERS
  have r_LETTERS : RelV (.str "abcdefghijklmnopqrstuvwxyz") (.str "abcdefghijklmnopqrstuvwxyz" t_LETTERS) := ⟨_, rfl⟩
  obtain ⟨t_FIGURES, g_FIGURES⟩ := T.c_FIGURES
  have r_FIGURES : RelV (.str "0123456789") (.str "0123456789" t_FIGURES) := ⟨_, rfl⟩
  refine df_pure A0 sc_is_spelling ?_ (fun f cdv A outer s H E hr => ?_)
  · rintro ds hp; first | (obtain ⟨_, _, _, _, _, rfl, _⟩ := hp; rfl) | (obtain ⟨_, _, _, _, rfl, _⟩ := hp; rfl) | (obtain ⟨_, _, _, rfl, _⟩ := hp; rfl) | (obtain ⟨_, rfl⟩ := hp; rfl) | (obtain ⟨_, _, rfl⟩ := hp; rfl) | (obtain ⟨_, _, _, rfl⟩ := hp; rfl) | (obtain ⟨_, _, _, _, rfl⟩ := hp; rfl) | (obtain ⟨_, _, _, _, rfl, _⟩ := hp; rfl) | (obtain ⟨_, _, _, rfl, _⟩ := hp; rfl) | (obtain ⟨_, _, rfl, _⟩ := hp; rfl) | (obtain ⟨_, rfl, _⟩ := hp; rfl)
  have nd := sc_is_spelling.nd
  refine ⟨_, (pss_cons (ps_if (PW.pt (pw_or (pt_not (pt_val (pe_callB (r := rIsi K) call_isi (by rfl) T.b_isinstance boot_isinstance (pa_cons (pv 0) (pa_cons (pe_bltn (v := .ty "str") (by rfl) T.b_str boot_str rfl) pa_nil))))) (pw_or (pt_not (pt_chain op_le op_le pe_int (pe_callB (r := fun xs H Q => ∃ x n, xs = [x] ∧ LenV K x H n ∧ Q (.int n) H) call_len (by rfl) T.b_len PySem.boot_len (pa_cons (pv 0) pa_nil)) pe_int)) (pw_or1 (pt_cmpR op_notIn_sign (pe_ix ix_str (pv 0) pe_int (fun _ _ => rfl)) (pe_glob (by rfl) g_LETTERS r_LETTERS) (by rfl)))))) (pss_one (ps_ret pe_bl)) pss_nil)
    (pss_one (ps_ret (pe_callB (r := rAll K) (cr_all rfl) (by rfl) T.b_all (by decide +kernel) (pa_cons (pe_lc (own := [("sign", 1)]) rfl nd (pi_str (pv 0)) (blkOk_by (N := N_is_spelling) (sc := defScope s_is_spelling) (by decide +kernel)) (fun _ _ _ _ _ => (pg_name (i := 1) nd rfl (Or.inl rfl))) (fun _ _ _ _ _ => pts_nil) (fun _ _ _ _ _ => (pe_or (pe_cmpR op_in_sign (pv 1) (pe_glob (by rfl) g_LETTERS r_LETTERS) (by rfl)) (pe_one (pe_cmpR op_in_sign (pv 1) (pe_glob (by rfl) g_FIGURES r_FIGURES) (by rfl)))))) pa_nil))))), fun Z G vs ds hv hp => ?_⟩
  obtain ⟨d, rfl, hs⟩ := hp
  obtain ⟨v, rfl, dv⟩ := all1 hv
  have hS : isStrD d = true → ∃ x, d = .str x ∧ x.length ≤ 1000 := fun e => by
    obtain ⟨x, rfl⟩ := is_str e
    exact ⟨x, rfl, small_str hs⟩
  by_cases hd : isStrD d = true
  · obtain ⟨x, rfl, hx⟩ := hS hd
    have hc1 : ∀ c r, x.cps.toList = c :: r → atI x.cps.toList 0 = some c := fun c r e => by rw [e]; exact atI_zero
    have hlen : x.length = x.cps.toList.length := by rw [Array.length_toList]; rfl
    have hL : Ev K Z (tCB (fun xs H Q => ∃ x n, xs = [x] ∧ LenV K x H n ∧ Q (.int n) H) (tCons (tVar 0) tNil)) (start N_is_spelling [v]) G (.int x.length) := ev_cb (eva_cons (ev_var rfl dv) eva_nil) (rc_lenS (line1000 hx))
    cases hl : x.cps.toList with
    | nil =>
      have h0 : x.length = 0 := by rw [hlen, hl]; rfl
      refine sr_if (b := true) (an_or (b2 := true) (an_not (an_tB (ev_isi rfl (.inl dv) (kb_str _)))) fun _ => (an_or (b2 := true) ((an_not (an_chain ev_int hL ev_int (rd_i0 fun _ => .bl _) (rd_i0 fun _ => .bl _))).to (b1 := true) (by rw [h0]; rfl)) fun e => by cases e).to (by simp)) (fun _ => sr_ret (ev_bl.to (by show _ = PyData.bool (spellL x.cps.toList); rw [hl]; rfl))) fun e => by cases e
    | cons c r =>
      have e3 : spellD (.str x) = (decide ((c :: r).length ≤ 8) && decide (c ∈ lettersL) && (c :: r).all fun c => decide (c ∈ lettersL) || decide (c ∈ figuresL)) := by
        show spellL x.cps.toList = _
        rw [hl]; rfl
      have hbig : (!(decide ((1 : Int) ≤ (x.length : Nat)) && decide (((x.length : Nat) : Int) ≤ 8))) = !decide ((c :: r).length ≤ 8) := by
        have : x.length = (c :: r).length := by rw [hlen, hl]
        rw [this]
        have h1 : decide ((1 : Int) ≤ ((c :: r).length : Nat)) = true := decide_eq_true (by rw [List.length_cons]; omega)
        rw [h1, Bool.true_and]
        congr 1
        exact decide_eq_decide.mpr (by omega)
      refine sr_if (an_or (an_not (an_tB (ev_isi rfl (.inl dv) (kb_str _)))) fun _ => an_or ((an_not (an_chain ev_int hL ev_int (rd_i0 fun _ => .bl _) (rd_i0 fun _ => .bl _))).to hbig) fun _ => an_test (ev_op (ev_op (ev_var rfl dv) ev_int (rd_ixS (line1000 hx) (hc1 c r hl))) ev_str rd_notInSign)) (fun e => sr_ret (ev_bl.to ?_)) fun e => ?_
      · show PyData.bool false = .bool (spellD (.str x))
        rw [e3]
        change (!true || (!decide ((c :: r).length ≤ 8) || !decide (c ∈ lettersL))) = true at e
        revert e
        cases decide ((c :: r).length ≤ 8) <;> cases decide (c ∈ lettersL) <;> simp
      · show SR K Z _ _ G (.bool (spellD (.str x)))
        rw [e3, ← hl]
        change (!true || (!decide ((c :: r).length ≤ 8) || !decide (c ∈ lettersL))) = false at e
        have e5 : (decide (x.cps.toList.length ≤ 8) && decide (c ∈ lettersL)) = true := by
          rw [hl]
          revert e
          cases decide ((c :: r).length ≤ 8) <;> cases decide (c ∈ lettersL) <;> simp
        rw [e5, Bool.true_and]
        refine sr_ret ((ev_allc (p := signOk) (evi_str (ev_var rfl dv)) (by rw [signs_len]; exact line1000 hx) fun Z' i d G' hi s => eg_name fun u G2 s2 du => ⟨rfl, ?_⟩).to ?_)
        · have hm := List.mem_of_getElem? hi
          unfold signsD at hm
          obtain ⟨c, _, rfl⟩ := List.mem_map.mp hm
          exact ev_orV (ev_op (ev_var rfl du) ev_str rd_inSign) fun _ => ev_op (ev_var rfl du) ev_str rd_inSign
        · rw [signs_all]; rfl
  · have hd' : isStrD d = false := by simpa using hd
    refine sr_if (b := true) ((an_or (b2 := true) (an_not (an_tB (ev_isi rfl (.inl dv) (kb_str d)))) fun e => by rw [hd'] at e; cases e).to (by rw [hd']; rfl)) (fun _ => sr_ret (ev_bl.to (by show _ = PyData.bool (spellD d); rw [not_str hd']))) fun e => by cases e
def N_is_name : List Str := ["value"]
theorem sc_is_name : FnScope N_is_name ["value"] (defScope s_is_name) := ⟨rfl, rfl, rfl, by decide +kernel, rfl, by decide +kernel, by decide +kernel⟩
abbrev sp_is_name (K : PySem.W.Frag) : Sp := spD K (fun ds => ∃ d, ds = [d] ∧ smallD d = true) (fun ds => match ds with | [d] => .bool (nameD d) | _ => .none)
theorem ok_is_name (A0 : At K mg "is_name" s_is_name ["value"]) (T : Tx w K mg) (D_is_spelling : Df P w K mg base "is_spelling" 1 ["value"] (sp_is_spelling K)) : Df P w K mg base "is_name" 2 ["value"] (sp_is_name K) := by
  obtain ⟨a_TRUTHS, g_TRUTHS, h_TRUTHS⟩ := T.c_TRUTHS
  have r_TRUTHS : RelV (.ref a_TRUTHS) (.ref a_TRUTHS) := rfl
  obtain ⟨f_is_spelling, fd_is_spelling, g_is_spelling, kp_is_spelling, b_is_spelling, G_is_spelling⟩ := D_is_spelling
  refine df_pure A0 sc_is_name ?_ (fun f cdv A outer s H E hr => ?_)
  · rintro ds hp; first | (obtain ⟨_, _, _, _, _, rfl, _⟩ := hp; rfl) | (obtain ⟨_, _, _, _, rfl, _⟩ := hp; rfl) | (obtain ⟨_, _, _, rfl, _⟩ := hp; rfl) | (obtain ⟨_, rfl⟩ := hp; rfl) | (obtain ⟨_, _, rfl⟩ := hp; rfl) | (obtain ⟨_, _, _, rfl⟩ := hp; rfl) | (obtain ⟨_, _, _, _, rfl⟩ := hp; rfl) | (obtain ⟨_, _, _, _, rfl, _⟩ := hp; rfl) | (obtain ⟨_, _, _, rfl, _⟩ := hp; rfl) | (obtain ⟨_, _, rfl, _⟩ := hp; rfl) | (obtain ⟨_, rfl, _⟩ := hp; rfl)
  have nd := sc_is_name.nd
  refine ⟨_, (pss_one (ps_ret (pe_and (pe_call G_is_spelling (hr.mono (by decide)) (by rfl) g_is_spelling kp_is_spelling b_is_spelling .nil pass0 (pa_cons (pv 0) pa_nil)) (pe_one (pe_cmpR (r := rIn K true) op_notIn_seq (pv 0) (pe_glob (by rfl) g_TRUTHS r_TRUTHS) (by rfl)))))), fun Z G vs ds hv hp => ?_⟩
  obtain ⟨d, rfl, hs⟩ := hp
  obtain ⟨v, rfl, dv⟩ := all1 hv
  refine sr_ret ((ev_andV (ev_call (eva_cons (ev_var rfl dv) eva_nil) ⟨d, rfl, hs⟩) fun e => ?_))
  have hd : flatD d = true := by cases d <;> first | rfl | (cases e; done)
  exact ev_op (ev_var rfl dv) (ev_k (h_TRUTHS _)) (rd_notIn hd rfl (.inr rfl))

/-- a list or tuple of at most six unlike names -/
def unlikeL (xs : List PyData) : Bool := (enumD xs).all fun p => match p with
  | .tuple [.int k, d] => !((cutD xs none (some k)).any fun y => PyData.eqv y d)
  | _ => false
def namesL (xs : List PyData) : Bool := decide (xs.length ≤ 6) && xs.all nameD && unlikeL xs
def namesD : PyData → Bool
  | .list xs => namesL xs
  | .tuple xs => namesL xs
  | _ => false
def smallQ (d : PyData) : Prop := smallD d = true ∨ d = .dict []
/-- the promise of a def of one argument, data or a dict -/
def spQ (K : PySem.W.Frag) (P : PyData → Prop) (f : PyData → PyData) : Sp := fun vs H Q _ => ∃ (Z : List Addr) (v : V) (d : PyData), Occ Z H ∧ vs = [v] ∧ Dq K (hid Z H) v d ∧ P d ∧ ∀ v H', Same H H' → Dx K (hid Z H') v (f d) → Q v H'
theorem df_q {x : Str} {st : Stmt} {N ps : List Str} {k : Nat} {Pr : PyData → Prop} {fn : PyData → PyData} (A0 : At K mg x st ps) (S : FnScope N ps (defScope st)) (hl : ps.length = 1)
    (hbody : ∀ (f : Addr) (cdv : Value) (A : Around) (outer : List Env) (s : Shared) (H : Hp) (E : XK), Room k (A.deeper (envOfC x (defScope st) s.heap.objs.size f cdv)) →
      ∃ t, PSs (cxOf CX0 P w K mg base N x (defScope st) f cdv A outer s H E).nox (defBody st) t ∧ ∀ (Z : List Addr) (G : Hp) (v : V) (d : PyData), Dq K G v d → Pr d → SR K Z t (start N [v]) G (fn d)) :
    Df P w K mg base x (k + 1) ps (spQ K Pr fn) := by
  obtain ⟨f, fd, g, F, b⟩ := A0.ex
  refine ⟨f, fd, g, F.kp, b, F.ok S (fun vs H Q E h => ?_) (fun cdv A outer s H vs Q E hr h => ?_)⟩
  · obtain ⟨Z, v, d, _, e, _⟩ := h
    rw [e, hl]; rfl
  · obtain ⟨t, ht, hs⟩ := hbody f cdv A outer s H E hr
    obtain ⟨Z, v, d, o, e, dv, hp, q⟩ := h
    subst e
    exact ⟨t, ht, hs Z (hid Z H) v d dv hp H (Same.refl _) o _ fun v H2 s2 dd => q v H2 s2 dd⟩
theorem ev_callQ {σ : L2.St} {Z : List Addr} {G : Hp} {te : TE} {d : PyData} {Pq : PyData → Prop} {f : PyData → PyData} {E : XK} (ha : Ev K Z te σ G d) (hp : Pq d) : Ev K Z (tCall (spQ K Pq f) [] E (tCons te tNil)) σ G (f d) := fun H1 s o Q q => ha H1 s o _ fun v H2 s2 dv => by
  exact ⟨Z, v, d, o.same s2, rfl, .inl dv, hp, fun v H3 s3 dv => q v H3 (s2.trans s3) dv⟩
theorem flat_names {xs : List PyData} (h : xs.all nameD = true) : xs.all flatD = true := by
  rw [List.all_eq_true] at h ⊢
  intro x hx
  have := h x hx
  cases x <;> first | rfl | (simp [nameD, spellD] at this; done)
theorem all_sub {xs ys : List PyData} {p : PyData → Bool} (h : ∀ x ∈ ys, x ∈ xs) (hx : xs.all p = true) : ys.all p = true := by
  rw [List.all_eq_true] at hx ⊢
  exact fun x hy => hx x (h x hy)
theorem cut_mem {xs : List PyData} {lo hi : Option Int} : ∀ x ∈ cutD xs lo hi, x ∈ xs := fun x hx => List.mem_of_mem_drop (List.mem_of_mem_take hx)
theorem enum_mem {xs : List PyData} {i : Nat} {d : PyData} (h : (enumD xs)[i]? = some d) : ∃ e, d = .tuple [.int (i : Nat), e] ∧ xs[i]? = some e := by
  have hi := (List.getElem?_eq_some_iff.mp h).1
  rw [enumD_length] at hi
  have e1 := enumD_get (List.getElem?_eq_getElem hi)
  rw [e1] at h
  cases h
  exact ⟨_, rfl, List.getElem?_eq_getElem hi⟩
def N_are_names : List Str := ["value", "name", "at"]
theorem sc_are_names : FnScope N_are_names ["value"] (defScope s_are_names) := ⟨rfl, rfl, rfl, by decide +kernel, rfl, by decide +kernel, by decide +kernel⟩
abbrev sp_are_names (K : PySem.W.Frag) : Sp := spQ K smallQ (fun d => .bool (namesD d))
theorem ok_are_names (A0 : At K mg "are_names" s_are_names ["value"]) (T : Tx w K mg) (D_is_name : Df P w K mg base "is_name" 2 ["value"] (sp_is_name K)) : Df P w K mg base "are_names" 3 ["value"] (sp_are_names K) := by
  obtain ⟨t_MOST_NAMES, g_MOST_NAMES⟩ := T.c_MOST_NAMES
  have r_MOST_NAMES : RelV (.int 6) (.int 6 t_MOST_NAMES) := ⟨_, rfl⟩
  obtain ⟨f_is_name, fd_is_name, g_is_name, kp_is_name, b_is_name, G_is_name⟩ := D_is_name
  refine df_q A0 sc_are_names rfl (fun f cdv A outer s H E hr => ?_)
  have nd := sc_are_names.nd
  refine ⟨_, (pss_cons (ps_if (PW.pt (pw_or (pt_not (pt_val (pe_callB (r := rIsiT K) call_isiT (by rfl) T.b_isinstance boot_isinstance (pa_cons (pv 0) (pa_cons (pe_tup (pa_cons (pe_bltn (v := .ty "list") (by rfl) T.b_list boot_list rfl) (pa_cons (pe_bltn (v := .ty "tuple") (by rfl) T.b_tuple boot_tuple rfl) pa_nil))) pa_nil))))) (pw_or (pt_cmpR op_gt (pe_callB (r := fun xs H Q => ∃ x n, xs = [x] ∧ LenV K x H n ∧ Q (.int n) H) call_len (by rfl) T.b_len PySem.boot_len (pa_cons (pv 0) pa_nil)) (pe_glob (by rfl) g_MOST_NAMES r_MOST_NAMES) (nomark _)) (pw_or1 (pt_not (pt_val (pe_callB (r := rAll K) (cr_all rfl) (by rfl) T.b_all (by decide +kernel) (pa_cons (pe_lc (own := [("name", 1)]) rfl nd (PI.or (pi_list (pv 0)) (pi_tup (pv 0))) (blkOk_by (N := N_are_names) (sc := defScope s_are_names) (by decide +kernel)) (fun _ _ _ _ _ => (pg_name (i := 1) nd rfl (Or.inl rfl))) (fun _ _ _ _ _ => pts_nil) (fun _ _ _ _ _ => (pe_call G_is_name (hr.mono (by decide)) (by rfl) g_is_name kp_is_name b_is_name .nil pass0 (pa_cons (pv 1) pa_nil)))) pa_nil)))))))) (pss_one (ps_ret pe_bl)) pss_nil)
    (pss_one (ps_ret (pe_callB (r := rAll K) (cr_all rfl) (by rfl) T.b_all (by decide +kernel) (pa_cons (pe_lc (own := [("at", 2), ("name", 1)]) rfl nd (PI.or (pi_enum (by rfl) T.b_enumerate (pa_cons (pv 0) pa_nil)) (pi_enumT (by rfl) T.b_enumerate (pa_cons (pv 0) pa_nil))) (blkOk_by (N := N_are_names) (sc := defScope s_are_names) (by decide +kernel)) (fun _ _ _ _ _ => (pg_tupK (n := 2) K rfl rfl (pgs_cons (pg_name (i := 2) nd rfl (Or.inl rfl)) (pgs_cons (pg_name (i := 1) nd rfl (Or.inl rfl)) pgs_nil)))) (fun _ _ _ _ _ => pts_nil) (fun _ _ _ _ _ => (pe_cmpR (r := rIn K true) op_notIn_seq (pv 1) (pe_sliceE K rfl (pv 0) po_none (po_some (pv 2))) (by rfl)))) pa_nil))))), fun Z G v d hq hp => ?_⟩
  by_cases hd : (isListD d || isTupD d) = true
  · have dv : Dx K G v d := by
      rcases hq with h | ⟨rfl, _⟩
      · exact h
      · cases hd
    have hs : smallD d = true := by
      rcases hp with h | rfl
      · exact h
      · cases hd
    rcases d with _ | _ | _ | _ | xs | xs | _ <;> first | (cases hd; done) | skip
    all_goals have hx := hs
    all_goals first | replace hx := small_list hs | replace hx := small_tuple hs
    all_goals obtain ⟨hl, hx⟩ := hx
    · have hL : Ev K Z (tCB (fun xs H Q => ∃ x n, xs = [x] ∧ LenV K x H n ∧ Q (.int n) H) (tCons (tVar 0) tNil)) (start N_are_names [v]) G (.int xs.length) := ev_cb (eva_cons (ev_var rfl dv) eva_nil) rc_lenL
      refine sr_if (b := !(decide (xs.length ≤ 6) && xs.all nameD)) ((an_or (an_not (an_tB (ev_isi2 rfl (.inl dv) (kb_list _) (kb_tuple _)))) fun _ => an_or (an_test (ev_op hL ev_int (rd_i0 fun _ => .bl _))) fun e => an_not (an_tB (ev_allc (p := nameD) (evi_orL (evi_list (ev_var rfl dv))) (line1000 hl) fun Z' i d G' hi s => eg_name fun u G2 s2 du => ⟨rfl, ev_call (eva_cons (ev_var rfl du) eva_nil) ⟨d, rfl, hx d (List.mem_of_getElem? hi)⟩⟩))).to ?_) (fun e => sr_ret (ev_bl.to ?_)) fun e => sr_ret ((ev_allc (p := fun p => match p with | .tuple [.int k, d] => !((cutD xs none (some k)).any fun y => PyData.eqv y d) | _ => false) (evi_orL (evi_enumL (eva_cons (ev_var rfl dv) eva_nil))) (by rw [enumD_length]; exact line1000 hl) fun Z' i d G' hi s => ?_).to ?_)
      · have : decide ((xs.length : Int) > 6) = !decide (xs.length ≤ 6) := by
          rw [← decide_not]; exact decide_eq_decide.mpr (by omega)
        rw [this]
        cases decide (xs.length ≤ 6) <;> cases xs.all nameD <;> rfl
      · show PyData.bool false = .bool (namesL xs)
        unfold namesL
        rw [Bool.not_eq_true'] at e
        rw [e, Bool.false_and]
      · rw [Bool.not_eq_false', Bool.and_eq_true] at e
        obtain ⟨e', rfl, hd⟩ := enum_mem hi
        have hf := flat_names e.2
        have hm := List.mem_of_getElem? hd
        refine eg_two fun u1 u2 G2 s2 du1 du2 => ⟨rfl, ?_⟩
        have hil := (List.getElem?_eq_some_iff.mp hd).1
        exact ev_op (ev_var rfl du2) (ev_orL (ev_slL (ev_var rfl (Dx.same (s.trans s2) _ _ dv)) evo_none (evo_some (ev_var rfl du1) (by omega)))) (rd_notIn (List.all_eq_true.mp hf _ hm) (all_sub cut_mem hf) (.inl rfl))
      · show PyData.bool (unlikeL xs) = .bool (namesL xs)
        rw [Bool.not_eq_false'] at e
        unfold namesL
        rw [e, Bool.true_and]
    · have hL : Ev K Z (tCB (fun xs H Q => ∃ x n, xs = [x] ∧ LenV K x H n ∧ Q (.int n) H) (tCons (tVar 0) tNil)) (start N_are_names [v]) G (.int xs.length) := ev_cb (eva_cons (ev_var rfl dv) eva_nil) rc_lenT
      refine sr_if (b := !(decide (xs.length ≤ 6) && xs.all nameD)) ((an_or (an_not (an_tB (ev_isi2 rfl (.inl dv) (kb_list _) (kb_tuple _)))) fun _ => an_or (an_test (ev_op hL ev_int (rd_i0 fun _ => .bl _))) fun e => an_not (an_tB (ev_allc (p := nameD) (evi_orR (evi_tup (ev_var rfl dv))) (line1000 hl) fun Z' i d G' hi s => eg_name fun u G2 s2 du => ⟨rfl, ev_call (eva_cons (ev_var rfl du) eva_nil) ⟨d, rfl, hx d (List.mem_of_getElem? hi)⟩⟩))).to ?_) (fun e => sr_ret (ev_bl.to ?_)) fun e => sr_ret ((ev_allc (p := fun p => match p with | .tuple [.int k, d] => !((cutD xs none (some k)).any fun y => PyData.eqv y d) | _ => false) (evi_orR (evi_enumT (eva_cons (ev_var rfl dv) eva_nil))) (by rw [enumD_length]; exact line1000 hl) fun Z' i d G' hi s => ?_).to ?_)
      · have : decide ((xs.length : Int) > 6) = !decide (xs.length ≤ 6) := by
          rw [← decide_not]; exact decide_eq_decide.mpr (by omega)
        rw [this]
        cases decide (xs.length ≤ 6) <;> cases xs.all nameD <;> rfl
      · show PyData.bool false = .bool (namesL xs)
        unfold namesL
        rw [Bool.not_eq_true'] at e
        rw [e, Bool.false_and]
      · rw [Bool.not_eq_false', Bool.and_eq_true] at e
        obtain ⟨e', rfl, hd⟩ := enum_mem hi
        have hf := flat_names e.2
        have hm := List.mem_of_getElem? hd
        refine eg_two fun u1 u2 G2 s2 du1 du2 => ⟨rfl, ?_⟩
        have hil := (List.getElem?_eq_some_iff.mp hd).1
        exact ev_op (ev_var rfl du2) (ev_orR (ev_slT (ev_var rfl (Dx.same (s.trans s2) _ _ dv)) evo_none (evo_some (ev_var rfl du1) (by omega)))) (rd_notIn (List.all_eq_true.mp hf _ hm) (all_sub cut_mem hf) (.inr rfl))
      · show PyData.bool (unlikeL xs) = .bool (namesL xs)
        rw [Bool.not_eq_false'] at e
        unfold namesL
        rw [e, Bool.true_and]
  · have hd' : (isListD d || isTupD d) = false := by simpa using hd
    refine sr_if (b := true) ((an_or (b2 := true) (an_not (an_tB (ev_isi2 rfl hq (kb_list d) (kb_tuple d)))) fun e => by rw [hd'] at e; cases e).to (by rw [hd']; rfl)) (fun _ => sr_ret (ev_bl.to ?_)) fun e => by cases e
    cases d <;> first | rfl | (cases hd'; done)
end
end K81
namespace K81
open PySem PySem.Spec PyProof.Rows L2

section
variable {P : Program} {w : World} {K : PySem.W.Frag} {mg : Str → Option Value} {base : Heap}

/-- triples of a function -/
def isTri : PyData → Bool
  | .tuple [n, .tuple ps, .tuple bs] => decide (n.depth ≤ 60)
  | _ => false
def namedD (b : Str) : PyData → Bool
  | .tuple (n :: _) => PyData.eqv n (.str b)
  | _ => false
def callWord (a : Str) : Bool := ([.str "call", .str "loop"] : List PyData).any fun y => PyData.eqv y (.str a)
def numIs (c : Str) : PyData → Bool
  | .int k => decide ((toString k : Str) = c)
  | _ => false
def toldD (c : Str) (n : Nat) : List PyData := (rngD 0 n).filter (numIs c)
def fitsD (a : Str) (n m : Nat) : Bool := decide (a = "call") || (decide ((m : Int) = (n : Int)) && decide ((0 : Int) < (n : Int)))
def calledIn (a c : Str) : PyData → PyData
  | .tuple [n, .tuple ps, .tuple bs] => if (!PyData.eqv (.list (toldD c bs.length)) (.list [])) && fitsD a ps.length bs.length then .tuple [.tuple [n, .tuple ps, .tuple bs], (toldD c bs.length).headD .none] else .none
  | _ => .none
theorem calledIn_eq {a c : Str} {n : PyData} {ps bs : List PyData} : calledIn a c (.tuple [n, .tuple ps, .tuple bs]) = if ((!PyData.eqv (.list (toldD c bs.length)) (.list [])) && fitsD a ps.length bs.length) = true then .tuple [.tuple [n, .tuple ps, .tuple bs], (toldD c bs.length).headD .none] else .none := rfl
def calledD (x : Str) (fs : List PyData) : PyData := match Txt.split x " " with
  | [a, b, c] => if callWord a = true then (match fs.find? (namedD b) with | some d => calledIn a c d | none => .none) else .none
  | _ => .none
/-- what stands for a list of functions -/
def isFuns (e : PyData) (fs : List PyData) : Prop := (e = .list fs ∨ e = .tuple fs) ∧ fs.length ≤ 1000 ∧ ∀ f ∈ fs, isTri f = true ∧ smallD f = true
theorem told_small {c : Str} {n : Nat} (h : n ≤ 1000) : smallD (.list (toldD c n)) = true := by
  refine of_small_list (Nat.le_trans (List.length_filter_le _ _) (by rw [rngD_length]; exact h)) fun x hx => ?_
  have := (List.mem_filter.mp hx).1
  unfold rngD at this
  obtain ⟨i, _, rfl⟩ := List.mem_map.mp this
  rfl
theorem told_depth {c : Str} {n : Nat} : (PyData.list (toldD c n)).depth ≤ 1 := by
  refine depth_list.mpr fun x hx => ?_
  have := (List.mem_filter.mp hx).1
  unfold rngD at this
  obtain ⟨i, _, rfl⟩ := List.mem_map.mp this
  exact Nat.le_refl _
theorem shaped_str {x : Str} (h : PyData.strOk x = true) : SeqAt.shaped (.str x) = true := by
  unfold SeqAt.shaped
  simp only [PyData.canLay0, h, Bool.true_and]
  exact decide_eq_true (by simp [PyData.depth])
theorem small_strOk {x : Str} (h : smallD (.str x) = true) : PyData.strOk x = true := by
  rw [smallD, Bool.and_eq_true] at h
  exact h.2
theorem tri_of {d : PyData} (h : isTri d = true) : ∃ n ps bs, d = .tuple [n, .tuple ps, .tuple bs] ∧ n.depth ≤ 60 := by
  unfold isTri at h
  split at h
  · exact ⟨_, _, _, rfl, of_decide_eq_true h⟩
  · cases h
theorem toStr_log {k : Nat} (h : k ≤ 1000) : ((k : Int)).natAbs.log2 < 1920 := by
  rw [Int.natAbs_natCast]
  exact Nat.lt_of_le_of_lt (Nat.log2_le_self _) (by omega)
theorem find_none {b : Str} : ∀ {fs : List PyData}, (∀ d ∈ fs, namedD b d = false) → fs.find? (namedD b) = none := fun {fs} h => List.find?_eq_none.mpr fun d hd => by rw [h d hd]; simp
theorem atI_1 {α : Type} {c d : α} {r : List α} : atI (c :: d :: r) 1 = some d := by
  have h : (1 : Int) < (r.length : Int) + 1 + 1 := by omega
  simp [atI, ixN, h]
theorem atI_2 {α : Type} {c d e : α} {r : List α} : atI (c :: d :: e :: r) 2 = some e := by
  have h : (2 : Int) < (r.length : Int) + 1 + 1 + 1 := by omega
  simp [atI, ixN, h]
theorem lookup_mem {α : Type} {x : Str} {s : α} : ∀ {l : List (Str × α)}, l.lookup x = some s → (x, s) ∈ l
  | [], h => by cases h
  | (k, v) :: r, h => by
    rw [List.lookup_cons] at h
    by_cases e : (x == k) = true
    · rw [e] at h
      cases h
      rw [eq_of_beq e]
      exact List.mem_cons_self
    · rw [Bool.not_eq_true] at e
      rw [e] at h
      exact List.mem_cons_of_mem _ (lookup_mem h)
theorem strs_small {x : Str} (h : PyData.strOk x = true) : True := trivial
def N_block_called : List Str := ["label", "functions", "words", "name", "parameters", "blocks", "told", "fits", "number"]
theorem sc_block_called : FnScope N_block_called ["label", "functions"] (defScope s_block_called) := ⟨rfl, rfl, rfl, by decide +kernel, rfl, by decide +kernel, by decide +kernel⟩
abbrev sp_block_called (K : PySem.W.Frag) : Sp := spD K (fun ds => ∃ (x : Str) (e : PyData) (fs : List PyData), ds = [.str x, e] ∧ smallD (.str x) = true ∧ isFuns e fs) (fun ds => match ds with | [.str x, .list fs] => calledD x fs | [.str x, .tuple fs] => calledD x fs | _ => .none)
theorem ok_block_called (A0 : At K mg "block_called" s_block_called ["label", "functions"]) (T : Tx w K mg) : Df P w K mg base "block_called" 1 ["label", "functions"] (sp_block_called K) := by
  refine df_pure A0 sc_block_called ?_ (fun f cdv A outer s H E hr => ?_)
  · rintro ds hp; first | (obtain ⟨_, _, _, _, _, rfl, _⟩ := hp; rfl) | (obtain ⟨_, _, _, _, rfl, _⟩ := hp; rfl) | (obtain ⟨_, _, _, rfl, _⟩ := hp; rfl) | (obtain ⟨_, rfl⟩ := hp; rfl) | (obtain ⟨_, _, rfl⟩ := hp; rfl) | (obtain ⟨_, _, _, rfl⟩ := hp; rfl) | (obtain ⟨_, _, _, _, rfl⟩ := hp; rfl) | (obtain ⟨_, _, _, _, rfl, _⟩ := hp; rfl) | (obtain ⟨_, _, _, rfl, _⟩ := hp; rfl) | (obtain ⟨_, _, rfl, _⟩ := hp; rfl) | (obtain ⟨_, rfl, _⟩ := hp; rfl)
  have nd := sc_block_called.nd
  refine ⟨_, (pss_cons (ps_set (i := 2) nd rfl (Or.inr rfl) (pe_split (pv 0) pe_str))
    (pss_cons (ps_if (PW.pt (pw_or (pt_cmpR op_ne (pe_callB (r := fun xs H Q => ∃ x n, xs = [x] ∧ LenV K x H n ∧ Q (.int n) H) call_len (by rfl) T.b_len PySem.boot_len (pa_cons (pv 2) pa_nil)) pe_int (nomark _)) (pw_or1 (pt_cmpR (r := rIn K true) op_notIn_seq (pe_ix (r := rIx K) ix_seq (pv 2) pe_int (fun _ _ => rfl)) (pe_tup (pa_cons pe_str (pa_cons pe_str pa_nil))) (by rfl))))) (pss_one (ps_ret pe_non)) pss_nil)
    (pss_cons (ps_for PassesOwn.never rfl (PI.or (pi_list (pv 1)) (pi_tup (pv 1))) (pg_tupK (n := 3) K rfl rfl (pgs_cons (pg_name (i := 3) nd rfl (Or.inl rfl)) (pgs_cons (pg_name (i := 4) nd rfl (Or.inl rfl)) (pgs_cons (pg_name (i := 5) nd rfl (Or.inl rfl)) pgs_nil)))) (pss_one (ps_if (pt_cmpR (r := rEqD K) (op_eqD hr.units) (pv 3) (pe_ix (r := rIx K) ix_seq (pv 2) pe_int (fun _ _ => rfl)) (nomark _)) (pss_cons (ps_setLc (i := 6) (own := [("number", 8)]) rfl nd rfl rfl (sw_true rfl rfl rfl (by decide +kernel)) (pi_range1 (by rfl) T.b_range (pa_cons (pe_callB (r := fun xs H Q => ∃ x n, xs = [x] ∧ LenV K x H n ∧ Q (.int n) H) call_len (by rfl) T.b_len PySem.boot_len (pa_cons (pv 5) pa_nil)) pa_nil)) (blkOk_by (N := N_block_called) (sc := defScope s_block_called) (by decide +kernel)) (fun _ _ _ _ _ => (pg_name (i := 8) nd rfl (Or.inl rfl))) (fun _ _ _ _ _ => (pts_one (pt_cmpR op_eq (pe_callTy call_str_int (by rfl) T.b_str boot_str (pa_cons (pv 8) pa_nil)) (pe_ix (r := rIx K) ix_seq (pv 2) pe_int (fun _ _ => rfl)) (nomark _)))) (fun _ _ _ _ _ => (pv 8)))
    (pss_cons (ps_set (i := 7) nd rfl (Or.inl rfl) (pe_or (pe_cmpR op_eq (pe_ix (r := rIx K) ix_seq (pv 2) pe_int (fun _ _ => rfl)) pe_str (nomark _)) (pe_one (pe_and (pe_cmpR op_eq (pe_callB (r := fun xs H Q => ∃ x n, xs = [x] ∧ LenV K x H n ∧ Q (.int n) H) call_len (by rfl) T.b_len PySem.boot_len (pa_cons (pv 5) pa_nil)) (pe_callB (r := fun xs H Q => ∃ x n, xs = [x] ∧ LenV K x H n ∧ Q (.int n) H) call_len (by rfl) T.b_len PySem.boot_len (pa_cons (pv 4) pa_nil)) (nomark _)) (pe_one (pe_cmpR op_gt (pe_callB (r := fun xs H Q => ∃ x n, xs = [x] ∧ LenV K x H n ∧ Q (.int n) H) call_len (by rfl) T.b_len PySem.boot_len (pa_cons (pv 4) pa_nil)) pe_int (nomark _)))))))
    (pss_one (ps_ret (pe_ifExp (PW.pt (pw_and (pt_cmpR (r := rNeD K) (op_neD hr.units) (pv 6) (pe_lst pa_nil) (nomark _)) (pw_and1 (pt_val (pv 7))))) (pe_tup (pa_cons (pe_tup (pa_cons (pv 3) (pa_cons (pv 4) (pa_cons (pv 5) pa_nil)))) (pa_cons (pe_ix (r := rIx K) ix_seq (pv 6) pe_int (fun _ _ => rfl)) pa_nil))) pe_non))))) pss_nil)))
    (pss_one (ps_ret pe_non))))), fun Z G vs ds hv hp => ?_⟩
  obtain ⟨x, e, fs, rfl, hsx, hfs, hfl, htri⟩ := hp
  have hx := small_str hsx
  have hok : ∀ b ∈ Txt.split x " ", PyData.strOk b = true := split_ok (small_strOk hsx)
  obtain ⟨v, u, rfl, dv, du⟩ := all2 hv
  refine SR.to ?_ (d := calledD x fs) (by rcases hfs with rfl | rfl <;> rfl)
  refine sr_set (ev_split (y := " ") (ev_var rfl dv) ev_str (by decide) (by rw [sizeLine_eq]; omega)) fun wv G1 s1 dw => ?_
  replace du := Dx.same s1 _ _ du
  unfold calledD
  generalize hs : Txt.split x " " = wsx at dw hok ⊢
  have hlen : Ev K Z (tCB (fun xs H Q => ∃ x n, xs = [x] ∧ LenV K x H n ∧ Q (.int n) H) (tCons (tVar 2) tNil)) ((start N_block_called [v, u]).set 2 (some wv)) G1 (.int (wsx.map PyData.str).length) := ev_cb (eva_cons (ev_var rfl dw) eva_nil) rc_lenL
  rw [List.length_map] at hlen
  by_cases h3 : wsx.length = 3
  · obtain ⟨a, b, c, rfl⟩ : ∃ a b c, wsx = [a, b, c] := by
      match wsx, h3 with
      | [a, b, c], _ => exact ⟨a, b, c, rfl⟩
    have hin := ev_op (Z := Z) (ev_op (ta := tVar 2) (σ := (start N_block_called [v, u]).set 2 (some wv)) (ev_var rfl dw) ev_int (rd_ixSL (d := .str a) atI_zero)) (ev_tup (eva_cons ev_str (eva_cons ev_str eva_nil)) (by decide +kernel)) (rd_notIn (ds := [.str "call", .str "loop"]) rfl rfl (.inr rfl))
    refine sr_if (b := !callWord a) ((an_or (an_test (ev_op hlen ev_int rd_neI)) fun _ => an_test hin).to (by rfl)) (fun e => sr_ret (ev_non.to ?_)) fun e => ?_
    · rw [Bool.not_eq_true'] at e
      simp only [e]
      rfl
    rw [Bool.not_eq_false'] at e
    simp only [e, if_true]
    refine sr_for (p := namedD b) (r := calledIn a c) (dend := .none) (S := fun σ => ∃ u1 u2 u3 u4 u5 u6, σ = [some v, some u, some wv, u1, u2, u3, u4, u5, u6]) ?_ ⟨_, _, _, _, _, _, rfl⟩ ?_ ?_
    · rcases hfs with rfl | rfl
      · exact evi_orL (evi_list (ev_var rfl du))
      · exact evi_orR (evi_tup (ev_var rfl du))
    · rintro i d σ1 G2 hd ⟨u1, u2, u3, u4, u5, u6, rfl⟩ s2
      obtain ⟨ht, hsm⟩ := htri d (List.mem_of_getElem? hd)
      obtain ⟨n, ps, bs, rfl, hn⟩ := tri_of ht
      obtain ⟨_, hsm⟩ := small_tuple hsm
      have sn := hsm n (by simp)
      have sp := small_tuple (hsm (.tuple ps) (by simp))
      have sb := small_tuple (hsm (.tuple bs) (by simp))
      refine eg_three fun n1 n2 n3 G3 s3 d1 d2 d3 => ?_
      replace dw := Dx.same (s2.trans s3) _ _ dw
      refine bb_if (an_test (ev_op (ev_var rfl d1) (ev_op (ev_var rfl dw) ev_int (rd_ixSL (d := .str b) atI_1)) (rd_eqD (shaped_small sn (by omega)) (shaped_str (hok b (by simp)))))) (fun _ => ?_) ⟨_, _, _, _, _, _, rfl⟩
      have hlb : ∀ {Z : List Addr} {σ : L2.St} {G : Hp}, Dx K G n3 (.tuple bs) → σ[5]? = some (some n3) → Ev K Z (tCB (fun xs H Q => ∃ x n, xs = [x] ∧ LenV K x H n ∧ Q (.int n) H) (tCons (tVar 5) tNil)) σ G (.int bs.length) := fun d3 e => ev_cb (eva_cons (ev_var e d3) eva_nil) rc_lenT
      have hlp : ∀ {Z : List Addr} {σ : L2.St} {G : Hp}, Dx K G n2 (.tuple ps) → σ[4]? = some (some n2) → Ev K Z (tCB (fun xs H Q => ∃ x n, xs = [x] ∧ LenV K x H n ∧ Q (.int n) H) (tCons (tVar 4) tNil)) σ G (.int ps.length) := fun d3 e => ev_cb (eva_cons (ev_var e d3) eva_nil) rc_lenT
      refine sr_set (ev_lcf (p := numIs c) (f := fun d => d) (evi_rng1 (eva_cons (hlb d3 rfl) eva_nil) (by omega) (by omega)) (by rw [rngD_length]; exact line1000 (by omega)) fun Z' j dj G4 hj s4 => eg_name fun w1 G5 s5 dw1 => ⟨rfl, ?_, fun _ => ev_var rfl dw1⟩) fun tv G4 s4 dt => ?_
      · have hji := (List.getElem?_eq_some_iff.mp hj).1
        rw [rngD_length] at hji
        rw [rngD_get hji] at hj
        cases hj
        refine an_test (ev_op (ev_cb (eva_cons (ev_var rfl dw1) eva_nil) ?_) (ev_op (ev_var rfl (Dx.same (s4.trans s5) _ _ dw)) ev_int (rd_ixSL (d := .str c) atI_2)) rd_eqS)
        exact rc_strI (by rw [Int.zero_add]; exact toStr_log (by omega))
      have et : ((rngD 0 ((bs.length : Nat) : Int).toNat).filter (numIs c)).map (fun d => d) = toldD c bs.length := by rw [List.map_id']; rfl
      rw [et] at dt
      replace dw := Dx.same s4 _ _ dw
      replace d1 := Dx.same s4 _ _ d1
      replace d2 := Dx.same s4 _ _ d2
      replace d3 := Dx.same s4 _ _ d3
      refine sr_set (d1 := .bool (fitsD a ps.length bs.length)) (ev_orV (ev_op (ev_op (ev_var rfl dw) ev_int (rd_ixSL (d := .str a) atI_zero)) ev_str rd_eqS) fun _ => ev_andV (ev_op (hlb d3 rfl) (hlp d2 rfl) rd_eqI) fun _ => ev_op (hlp d2 rfl) ev_int (rd_i0 fun _ => .bl _)) fun fv G5 s5 df => ?_
      replace dt := Dx.same s5 _ _ dt
      replace d1 := Dx.same s5 _ _ d1
      replace d2 := Dx.same s5 _ _ d2
      replace d3 := Dx.same s5 _ _ d3
      refine sr_ret (ev_if (b := (!PyData.eqv (.list (toldD c bs.length)) (.list [])) && fitsD a ps.length bs.length) (an_and (an_test (ev_op (ev_var rfl dt) (ev_lst eva_nil (by decide +kernel)) (rd_neD (shaped_small (told_small sb.1) (Nat.le_trans told_depth (by decide))) (by decide +kernel)))) fun _ => an_tB (ev_var rfl df)) (fun e => ?_) fun e => ?_)
      · refine (ev_tup (eva_cons (ev_tup (eva_cons (ev_var rfl d1) (eva_cons (ev_var rfl d2) (eva_cons (ev_var rfl d3) eva_nil))) (line1000 (by simp))) (eva_cons (ev_op (ev_var rfl dt) ev_int (rd_ixSL (d := (toldD c bs.length).headD .none) ?_)) eva_nil)) (line1000 (by simp))).to ?_
        · rw [Bool.and_eq_true] at e
          cases q : toldD c bs.length with
          | nil => rw [q] at e; simp [PyData.eqv, PyData.eqvAll] at e
          | cons z r => exact atI_zero
        · show _ = calledIn a c (.tuple [n, .tuple ps, .tuple bs])
          exact (calledIn_eq.trans (if_pos e)).symm
      · refine ev_non.to ?_
        show _ = calledIn a c (.tuple [n, .tuple ps, .tuple bs])
        exact (calledIn_eq.trans (if_neg (by rw [e]; exact Bool.false_ne_true))).symm
    · intro σ1 G2 _ _ _
      exact sr_ret ev_non
  · refine sr_if (b := true) ((an_or (b2 := true) (an_test (ev_op hlen ev_int rd_neI)) fun e => ?_).to ?_) (fun _ => sr_ret (ev_non.to ?_)) fun e => by cases e
    · exfalso
      have : ((wsx.length : Nat) : Int) = 3 := by simpa using e
      omega
    · have : decide (((wsx.length : Nat) : Int) = 3) = false := decide_eq_false (by omega)
      rw [this]; rfl
    · match wsx, h3 with
      | [], _ => rfl
      | [_], _ => rfl
      | [_, _], _ => rfl
      | [_, _, _], h => exact absurd rfl h
      | _ :: _ :: _ :: _ :: _, _ => rfl

def formD (x : Str) (fs : List PyData) : PyData := match tab_FORMS.lookup x with
  | some s => s
  | none => (match shapeD (.str x) with
    | .tuple [_, .tuple ws] => .str (Txt.mul "r" ((ws.length : Int) + 1))
    | _ => if isNoneD (calledD x fs) = true then .none else .str "r")
theorem form_some {x : Str} {fs : List PyData} {s : PyData} (q : tab_FORMS.lookup x = some s) : formD x fs = s := by unfold formD; simp only [q]
theorem form_no {x : Str} {fs : List PyData} (q : tab_FORMS.lookup x = none) (h : shapeD (.str x) = .none) : formD x fs = if isNoneD (calledD x fs) = true then .none else .str "r" := by unfold formD; simp only [q, h]
theorem form_sh {x : Str} {fs ws : List PyData} {a : PyData} (q : tab_FORMS.lookup x = none) (h : shapeD (.str x) = .tuple [a, .tuple ws]) : formD x fs = .str (Txt.mul "r" ((ws.length : Int) + 1)) := by unfold formD; simp only [q, h]
theorem shape_some {x : Str} {s : PyData} (q : tab_SHAPES.lookup x = some s) : shapeD (.str x) = s := by unfold shapeD; simp only [q]
theorem shape_no {x : Str} (q : tab_SHAPES.lookup x = none) : shapeD (.str x) = if decide (0 < bitsI x) = true then .tuple [.str "word", .tuple [.str "word"]] else .none := by unfold shapeD; simp only [q]
theorem shapes_all : ∀ p ∈ tab_SHAPES, ∃ a ws, p.2 = .tuple [a, .tuple ws] ∧ 1 ≤ ws.length ∧ ws.length ≤ 3 := by
  unfold tab_SHAPES
  simp only [List.mem_cons, List.not_mem_nil, or_false]
  rintro p hp
  rcases hp with rfl | rfl | rfl | rfl | rfl | rfl | rfl | rfl | rfl | rfl | rfl | rfl | rfl | rfl | rfl | rfl <;> exact ⟨_, _, rfl, by simp, by simp⟩
theorem shape_is (x : Str) : shapeD (.str x) = .none ∨ ∃ a ws, shapeD (.str x) = .tuple [a, .tuple ws] ∧ 1 ≤ ws.length ∧ ws.length ≤ 3 := by
  cases q : tab_SHAPES.lookup x with
  | none =>
    rw [shape_no q]
    by_cases h : decide (0 < bitsI x) = true
    · rw [if_pos h]; exact .inr ⟨.str "word", [.str "word"], rfl, Nat.le_refl _, by decide⟩
    · rw [if_neg h]; exact .inl rfl
  | some s =>
    rw [shape_some q]
    exact .inr (shapes_all _ (lookup_mem q))
theorem mulOk_r {n : Nat} (h : 1 ≤ n) (h3 : n ≤ 3) : MulOk "r" ((n : Int) + 1) := by
  rcases (by omega : n = 1 ∨ n = 2 ∨ n = 3) with rfl | rfl | rfl <;> exact ⟨by decide +kernel, by decide +kernel, by decide +kernel⟩
def N_form_of : List Str := ["head", "functions", "shape"]
theorem sc_form_of : FnScope N_form_of ["head", "functions"] (defScope s_form_of) := ⟨rfl, rfl, rfl, by decide +kernel, rfl, by decide +kernel, by decide +kernel⟩
abbrev sp_form_of (K : PySem.W.Frag) : Sp := spD K (fun ds => ∃ (x : Str) (e : PyData) (fs : List PyData), ds = [.str x, e] ∧ smallD (.str x) = true ∧ isFuns e fs) (fun ds => match ds with | [.str x, .list fs] => formD x fs | [.str x, .tuple fs] => formD x fs | _ => .none)
theorem ok_form_of (A0 : At K mg "form_of" s_form_of ["head", "functions"]) (T : Tx w K mg) (D_shape_of : Df P w K mg base "shape_of" 2 ["label"] (sp_shape_of K)) (D_block_called : Df P w K mg base "block_called" 1 ["label", "functions"] (sp_block_called K)) : Df P w K mg base "form_of" 3 ["head", "functions"] (sp_form_of K) := by
  obtain ⟨a_FORMS, g_FORMS, h_FORMS⟩ := T.c_FORMS
  have r_FORMS : RelV (.ref a_FORMS) (.ref a_FORMS) := rfl
  obtain ⟨f_shape_of, fd_shape_of, g_shape_of, kp_shape_of, b_shape_of, G_shape_of⟩ := D_shape_of
  obtain ⟨f_block_called, fd_block_called, g_block_called, kp_block_called, b_block_called, G_block_called⟩ := D_block_called
  obtain ⟨⟨es_FORMS, n_FORMS, D_FORMS⟩, _⟩ := id h_FORMS
  refine df_pure A0 sc_form_of ?_ (fun f cdv A outer s H E hr => ?_)
  · rintro ds hp; first | (obtain ⟨_, _, _, _, _, rfl, _⟩ := hp; rfl) | (obtain ⟨_, _, _, _, rfl, _⟩ := hp; rfl) | (obtain ⟨_, _, _, rfl, _⟩ := hp; rfl) | (obtain ⟨_, rfl⟩ := hp; rfl) | (obtain ⟨_, _, rfl⟩ := hp; rfl) | (obtain ⟨_, _, _, rfl⟩ := hp; rfl) | (obtain ⟨_, _, _, _, rfl⟩ := hp; rfl) | (obtain ⟨_, _, _, _, rfl, _⟩ := hp; rfl) | (obtain ⟨_, _, _, rfl, _⟩ := hp; rfl) | (obtain ⟨_, _, rfl, _⟩ := hp; rfl) | (obtain ⟨_, rfl, _⟩ := hp; rfl)
  have nd := sc_form_of.nd
  refine ⟨_, (pss_cons (ps_if (pt_cmpR (op_in_kd D_FORMS) (pv 0) (pe_glob (by rfl) g_FORMS r_FORMS) (by rfl)) (pss_one (ps_ret (pe_ix (r := rIxD K w) ix_kdict (pe_glob (by rfl) g_FORMS r_FORMS) (pv 0) (fun _ _ => rfl)))) pss_nil)
    (pss_cons (ps_set (i := 2) nd rfl (Or.inl rfl) (pe_call G_shape_of (hr.mono (by decide)) (by rfl) g_shape_of kp_shape_of b_shape_of .nil pass0 (pa_cons (pv 0) pa_nil)))
    (pss_cons (ps_if (pt_cmpR op_notN (pv 2) pe_non (nomark _)) (pss_one (ps_ret (pe_op op_mulS pe_str (pe_op op_add (pe_callB (r := fun xs H Q => ∃ x n, xs = [x] ∧ LenV K x H n ∧ Q (.int n) H) call_len (by rfl) T.b_len PySem.boot_len (pa_cons (pe_ix (r := rIx K) ix_seq (pv 2) pe_int (fun _ _ => rfl)) pa_nil)) pe_int)))) pss_nil)
    (pss_one (ps_ret (pe_ifExp (pt_cmpR op_notN (pe_call G_block_called (hr.mono (by decide)) (by rfl) g_block_called kp_block_called b_block_called .nil pass0 (pa_cons (pv 0) (pa_cons (pv 1) pa_nil))) pe_non (nomark _)) pe_str pe_non)))))), fun Z G vs ds hv hp => ?_⟩
  obtain ⟨x, e, fs, rfl, hx, hfs⟩ := hp
  obtain ⟨v, u, rfl, dv, du⟩ := all2 hv
  have hT := h_FORMS
  refine SR.to ?_ (d := formD x fs) (by rcases hfs.1 with rfl | rfl <;> rfl)
  refine sr_if (an_test (ev_inKT h_FORMS (ev_var rfl dv))) (fun e => sr_ret ?_) fun e => ?_
  · cases q : tab_FORMS.lookup x with
    | none => rw [q] at e; cases e
    | some s => exact (ev_ixKT h_FORMS (ev_var rfl dv) q).to (by show s = formD x fs; unfold formD; simp only [q])
  have q : tab_FORMS.lookup x = none := by
    cases q : tab_FORMS.lookup x with
    | none => rfl
    | some s => rw [q] at e; cases e
  refine sr_set (d1 := shapeD (.str x)) (ev_call (eva_cons (ev_var rfl dv) eva_nil) ⟨.str x, rfl, hx⟩) fun sv G1 s1 ds => ?_
  replace dv := Dx.same s1 _ _ dv
  replace du := Dx.same s1 _ _ du
  rcases shape_is x with h | ⟨a, ws, h, h1, h3⟩
  · rw [h] at ds
    rw [form_no q h]
    refine sr_if (an_test (ev_op (ev_var rfl ds) ev_non rd_notN)) (fun e => by cases e) fun _ => sr_ret ?_
    refine (ev_if (d := if isNoneD (calledD x fs) = true then .none else .str "r") (b := !isNoneD (calledD x fs)) (an_test (ev_op ((ev_call (eva_cons (ev_var rfl dv) (eva_cons (ev_var rfl du) eva_nil)) ⟨x, _, fs, rfl, hx, hfs⟩).to (by rcases hfs.1 with rfl | rfl <;> rfl)) ev_non rd_notN)) (fun e => ev_str.to ?_) fun e => ev_non.to ?_)
    · rw [Bool.not_eq_true'] at e
      rw [e]; rfl
    · rw [Bool.not_eq_false'] at e
      rw [e]; rfl
  · rw [h] at ds
    rw [form_sh q h]
    refine sr_if (an_test (ev_op (ev_var rfl ds) ev_non rd_notN)) (fun _ => sr_ret ?_) fun e => by cases e
    refine ev_op ev_str (ev_op (ev_cb (eva_cons (ev_op (ev_var rfl ds) ev_int (rd_ixST (d := .tuple ws) atI_1)) eva_nil) rc_lenT) ev_int (rd_i0 fun _ => .int _)) (rd_mulS (mulOk_r h1 h3))
end
end K81
namespace K81
open PySem PySem.Spec PyProof.Rows L2

section
variable {P : Program} {w : World} {K : PySem.W.Frag} {mg : Str → Option Value} {base : Heap}

def mostOf (x : Str) (many : Int) : Option Int := if x = "r" then some (many - 1) else if x = "c" then some 999 else none
def itemD (s d : PyData) (many : Int) : Bool := match s with
  | .str x => if decide (x = "x") = true then nameD d else if decide (x = "n") = true then withinD d (.int (-2147483647)) (.int 2147483647) else withinD d (.int 0) (optD (mostOf x many))
  | _ => false
def formSign (x : Str) : Prop := x = "x" ∨ x = "n" ∨ x = "r" ∨ x = "c" ∨ x = "w"
theorem itemD_str {x : Str} {d : PyData} {m : Int} : itemD (.str x) d m = if decide (x = "x") = true then nameD d else if decide (x = "n") = true then withinD d (.int (-2147483647)) (.int 2147483647) else withinD d (.int 0) (optD (mostOf x m)) := rfl
def N_is_item : List Str := ["sign", "value", "many", "most"]
theorem sc_is_item : FnScope N_is_item ["sign", "value", "many"] (defScope s_is_item) := ⟨rfl, rfl, rfl, by decide +kernel, rfl, by decide +kernel, by decide +kernel⟩
abbrev sp_is_item (K : PySem.W.Frag) : Sp := spD K (fun ds => ∃ (x : Str) (d : PyData) (m : Int), ds = [.str x, d, .int m] ∧ smallD d = true ∧ formSign x) (fun ds => match ds with | [s, d, .int m] => .bool (itemD s d m) | _ => .none)
theorem ok_is_item (A0 : At K mg "is_item" s_is_item ["sign", "value", "many"]) (T : Tx w K mg) (D_is_name : Df P w K mg base "is_name" 2 ["value"] (sp_is_name K)) (D_is_within : Df P w K mg base "is_within" 2 ["value", "least", "most"] (sp_is_within K)) : Df P w K mg base "is_item" 3 ["sign", "value", "many"] (sp_is_item K) := by
  obtain ⟨t_MOST_INTEGER, g_MOST_INTEGER⟩ := T.c_MOST_INTEGER
  have r_MOST_INTEGER : RelV (.int 2147483647) (.int 2147483647 t_MOST_INTEGER) := ⟨_, rfl⟩
  obtain ⟨t_MOST_CELL, g_MOST_CELL⟩ := T.c_MOST_CELL
  have r_MOST_CELL : RelV (.int 999) (.int 999 t_MOST_CELL) := ⟨_, rfl⟩
  obtain ⟨f_is_name, fd_is_name, g_is_name, kp_is_name, b_is_name, G_is_name⟩ := D_is_name
  obtain ⟨f_is_within, fd_is_within, g_is_within, kp_is_within, b_is_within, G_is_within⟩ := D_is_within
  refine df_pure A0 sc_is_item ?_ (fun f cdv A outer s H E hr => ?_)
  · rintro ds hp; first | (obtain ⟨_, _, _, _, _, rfl, _⟩ := hp; rfl) | (obtain ⟨_, _, _, _, rfl, _⟩ := hp; rfl) | (obtain ⟨_, _, _, rfl, _⟩ := hp; rfl) | (obtain ⟨_, rfl⟩ := hp; rfl) | (obtain ⟨_, _, rfl⟩ := hp; rfl) | (obtain ⟨_, _, _, rfl⟩ := hp; rfl) | (obtain ⟨_, _, _, _, rfl⟩ := hp; rfl) | (obtain ⟨_, _, _, _, rfl, _⟩ := hp; rfl) | (obtain ⟨_, _, _, rfl, _⟩ := hp; rfl) | (obtain ⟨_, _, rfl, _⟩ := hp; rfl) | (obtain ⟨_, rfl, _⟩ := hp; rfl)
  have nd := sc_is_item.nd
  refine ⟨_, (pss_cons (ps_if (pt_cmpR op_eq (pv 0) pe_str (nomark _)) (pss_one (ps_ret (pe_call G_is_name (hr.mono (by decide)) (by rfl) g_is_name kp_is_name b_is_name .nil pass0 (pa_cons (pv 1) pa_nil)))) pss_nil)
    (pss_cons (ps_if (pt_cmpR op_eq (pv 0) pe_str (nomark _)) (pss_one (ps_ret (pe_call G_is_within (hr.mono (by decide)) (by rfl) g_is_within kp_is_within b_is_within .nil pass0 (pa_cons (pv 1) (pa_cons (pe_un un_neg (pe_glob (by rfl) g_MOST_INTEGER r_MOST_INTEGER)) (pa_cons (pe_glob (by rfl) g_MOST_INTEGER r_MOST_INTEGER) pa_nil)))))) pss_nil)
    (pss_cons (ps_set (i := 3) nd rfl (Or.inl rfl) (pe_disp (pps_cons pe_str (pe_op op_sub (pv 2) pe_int) (pps_cons pe_str (pe_glob (by rfl) g_MOST_CELL r_MOST_CELL) (pps_cons pe_str pe_non pps_nil))) rfl rfl (by simp) (by decide)))
    (pss_one (ps_ret (pe_call G_is_within (hr.mono (by decide)) (by rfl) g_is_within kp_is_within b_is_within .nil pass0 (pa_cons (pv 1) (pa_cons pe_int (pa_cons (pe_dget (Nat.lt_of_le_of_lt (Nat.add_le_add_left (by decide) _) hr.units) (pv 3) (pv 0) (fun _ _ => rfl)) pa_nil))))))))), fun Z G vs ds hv hp => ?_⟩
  obtain ⟨x, d, m, rfl, hd, hx⟩ := hp
  obtain ⟨v, u, z, rfl, dv, du, dz⟩ := all3 hv
  show SR K Z _ _ G (.bool (itemD (.str x) d m))
  rw [itemD_str]
  refine sr_if (an_test (ev_op (ev_var rfl dv) ev_str rd_eqS)) (fun e => sr_ret ((ev_call (eva_cons (ev_var rfl du) eva_nil) ⟨d, rfl, hd⟩).to (by rw [if_pos e]))) fun e => ?_
  rw [if_neg (by rw [e]; exact Bool.false_ne_true)]
  refine sr_if (an_test (ev_op (ev_var rfl dv) ev_str rd_eqS)) (fun e2 => sr_ret ((ev_call (eva_cons (ev_var rfl du) (eva_cons (ev_neg ev_int) (eva_cons ev_int eva_nil))) ⟨d, some (-2147483647), some 2147483647, rfl⟩).to (by rw [if_pos e2]))) fun e2 => ?_
  rw [if_neg (by rw [e2]; exact Bool.false_ne_true)]
  refine sr_disp3 (k1 := "r") (k2 := "c") (k3 := "w") (d1 := .int (m - 1)) (d2 := .int 999) (d3 := .none) (by decide) (by decide) (by decide) (fun Z => ev_op (ev_var rfl dz) ev_int (rd_i0 fun _ => .int _)) (fun Z => ev_int) (fun Z => ev_non) fun p u1 u2 u3 G1 s1 hp d1 d2 d3 => ?_
  replace dv := Dx.same s1 _ _ dv
  replace du := Dx.same s1 _ _ du
  refine sr_ret ?_
  rcases hx with rfl | rfl | rfl | rfl | rfl
  · exact absurd e (by decide)
  · exact absurd e2 (by decide)
  · exact ev_call (eva_cons (ev_var rfl du) (eva_cons ev_int (eva_cons (ev_dget (v := u1) rfl hp (ev_var rfl dv) rfl d1) eva_nil))) ⟨d, some 0, mostOf "r" m, rfl⟩
  · exact ev_call (eva_cons (ev_var rfl du) (eva_cons ev_int (eva_cons (ev_dget (v := u2) rfl hp (ev_var rfl dv) rfl d2) eva_nil))) ⟨d, some 0, mostOf "c" m, rfl⟩
  · exact ev_call (eva_cons (ev_var rfl du) (eva_cons ev_int (eva_cons (ev_dget (v := u3) rfl hp (ev_var rfl dv) rfl d3) eva_nil))) ⟨d, some 0, mostOf "w" m, rfl⟩

def deedWord (x : Str) : Bool := ([.str "spend", .str "keep", .str "ask", .str "tell", .str "put", .str "unless", .str "go"] : List PyData).any fun y => PyData.eqv y (.str x)
def itemP (many : Int) : PyData → Bool
  | .tuple [s, d] => itemD s d many
  | _ => false
def rowD (d : PyData) (many : Int) (fs : List PyData) (deed : Bool) : Bool := match d with
  | .tuple (.str x :: r) => (match formD x fs with
    | .str form => decide (form.length = r.length) && !(deedWord x && !deed) && (zipD form r).all (itemP many)
    | _ => false)
  | _ => false
theorem forms_all : ∀ p ∈ tab_FORMS, ∃ form : Str, p.2 = .str form ∧ form.length ≤ 4 ∧ ∀ c ∈ form.cps.toList, formSign ⟨#[c]⟩ := by
  have h : ∀ p ∈ tab_FORMS, ∃ form : Str, p.2 = .str form ∧ form.length ≤ 4 ∧ (form.cps.toList.all fun c => decide ((⟨#[c]⟩ : Str) = "x") || (decide ((⟨#[c]⟩ : Str) = "n") || (decide ((⟨#[c]⟩ : Str) = "r") || (decide ((⟨#[c]⟩ : Str) = "c") || decide ((⟨#[c]⟩ : Str) = "w"))))) = true := by
    unfold tab_FORMS
    simp only [List.mem_cons, List.not_mem_nil, or_false]
    rintro p hp
    rcases hp with rfl | rfl | rfl | rfl | rfl | rfl | rfl | rfl | rfl | rfl | rfl | rfl | rfl | rfl | rfl <;> exact ⟨_, rfl, by decide +kernel, by decide +kernel⟩
  intro p hp
  obtain ⟨form, e, h1, h2⟩ := h p hp
  refine ⟨form, e, h1, fun c hc => ?_⟩
  have := List.all_eq_true.mp h2 c hc
  simp only [Bool.or_eq_true, decide_eq_true_eq] at this
  exact this
theorem form_is (x : Str) (fs : List PyData) : formD x fs = .none ∨ ∃ form, formD x fs = .str form ∧ form.length ≤ 4 ∧ ∀ c ∈ form.cps.toList, formSign ⟨#[c]⟩ := by
  cases q : tab_FORMS.lookup x with
  | some s =>
    rw [form_some q]
    exact .inr (forms_all _ (lookup_mem q))
  | none =>
    have hr : ("r" : Str) = ⟨#[114]⟩ := by decide
    rcases shape_is x with h | ⟨a, ws, h, h1, h3⟩
    · rw [form_no q h]
      cases isNoneD (calledD x fs)
      · refine .inr ⟨"r", rfl, by decide, fun c hc => ?_⟩
        have : c = 114 := by
          rw [hr] at hc
          simpa using hc
        rw [this]
        exact .inr (.inr (.inl rfl))
      · exact .inl rfl
    · rw [form_sh q h]
      refine .inr ⟨_, rfl, ?_, fun c hc => ?_⟩
      · rcases (by omega : ws.length = 1 ∨ ws.length = 2 ∨ ws.length = 3) with e | e | e <;> rw [e] <;> decide +kernel
      · have : c = 114 := by
          rw [hr, PyProof.Rows.mul_one_list] at hc
          exact List.eq_of_mem_replicate hc
        rw [this]
        exact .inr (.inr (.inl rfl))

theorem rowD_eq {x : Str} {r : List PyData} {m : Int} {fs : List PyData} {deed : Bool} {form : Str} (h : formD x fs = .str form) : rowD (.tuple (.str x :: r)) m fs deed = (decide (form.length = r.length) && !(deedWord x && !deed) && (zipD form r).all (itemP m)) := by
  unfold rowD; simp only [h]
theorem rowD_no {x : Str} {r : List PyData} {m : Int} {fs : List PyData} {deed : Bool} (h : formD x fs = .none) : rowD (.tuple (.str x :: r)) m fs deed = false := by
  unfold rowD; simp only [h]
theorem tup_not {d : PyData} (h : isTupD d = false) {m : Int} {fs : List PyData} {deed : Bool} : rowD d m fs deed = false := by cases d <;> first | rfl | (cases h; done)
theorem head_not {d : PyData} {r : List PyData} (h : isStrD d = false) {m : Int} {fs : List PyData} {deed : Bool} : rowD (.tuple (d :: r)) m fs deed = false := by cases d <;> first | rfl | (cases h; done)
theorem zip_mem {x : Str} {r : List PyData} {i : Nat} {d : PyData} (h : (zipD x r)[i]? = some d) : ∃ c e, d = .tuple [.str ⟨#[c]⟩, e] ∧ c ∈ x.cps.toList ∧ e ∈ r := by
  unfold zipD signsD at h
  obtain ⟨p, hp, rfl⟩ := List.mem_map.mp (List.mem_of_getElem? h)
  obtain ⟨h1, h2⟩ := List.of_mem_zip hp
  obtain ⟨c, hc, e⟩ := List.mem_map.mp h1
  exact ⟨c, p.2, by rw [← e], hc, h2⟩
def N_is_row : List Str := ["row", "many", "functions", "is_deed", "form", "sign", "value"]
theorem sc_is_row : FnScope N_is_row ["row", "many", "functions", "is_deed"] (defScope s_is_row) := ⟨rfl, rfl, rfl, by decide +kernel, rfl, by decide +kernel, by decide +kernel⟩
abbrev sp_is_row (K : PySem.W.Frag) : Sp := spD K (fun ds => ∃ (d : PyData) (m : Int) (e : PyData) (fs : List PyData) (b : Bool), ds = [d, .int m, e, .bool b] ∧ smallD d = true ∧ isFuns e fs) (fun ds => match ds with | [d, .int m, .list fs, .bool b] => .bool (rowD d m fs b) | [d, .int m, .tuple fs, .bool b] => .bool (rowD d m fs b) | _ => .none)
theorem ok_is_row (A0 : At K mg "is_row" s_is_row ["row", "many", "functions", "is_deed"]) (T : Tx w K mg) (D_form_of : Df P w K mg base "form_of" 3 ["head", "functions"] (sp_form_of K)) (D_is_item : Df P w K mg base "is_item" 3 ["sign", "value", "many"] (sp_is_item K)) : Df P w K mg base "is_row" 4 ["row", "many", "functions", "is_deed"] (sp_is_row K) := by
  obtain ⟨a_DEEDS, g_DEEDS, h_DEEDS⟩ := T.c_DEEDS
  have r_DEEDS : RelV (.ref a_DEEDS) (.ref a_DEEDS) := rfl
  obtain ⟨f_form_of, fd_form_of, g_form_of, kp_form_of, b_form_of, G_form_of⟩ := D_form_of
  obtain ⟨f_is_item, fd_is_item, g_is_item, kp_is_item, b_is_item, G_is_item⟩ := D_is_item
  refine df_pure A0 sc_is_row ?_ (fun f cdv A outer s H E hr => ?_)
  · rintro ds hp; first | (obtain ⟨_, _, _, _, _, rfl, _⟩ := hp; rfl) | (obtain ⟨_, _, _, _, rfl, _⟩ := hp; rfl) | (obtain ⟨_, _, _, rfl, _⟩ := hp; rfl) | (obtain ⟨_, rfl⟩ := hp; rfl) | (obtain ⟨_, _, rfl⟩ := hp; rfl) | (obtain ⟨_, _, _, rfl⟩ := hp; rfl) | (obtain ⟨_, _, _, _, rfl⟩ := hp; rfl) | (obtain ⟨_, _, _, _, rfl, _⟩ := hp; rfl) | (obtain ⟨_, _, _, rfl, _⟩ := hp; rfl) | (obtain ⟨_, _, rfl, _⟩ := hp; rfl) | (obtain ⟨_, rfl, _⟩ := hp; rfl)
  have nd := sc_is_row.nd
  refine ⟨_, (pss_cons (ps_if (PW.pt (pw_or (pt_not (pt_val (pe_callB (r := rIsi K) call_isi (by rfl) T.b_isinstance boot_isinstance (pa_cons (pv 0) (pa_cons (pe_bltn (v := .ty "tuple") (by rfl) T.b_tuple boot_tuple rfl) pa_nil))))) (pw_or (pt_cmpR op_eq (pe_callB (r := fun xs H Q => ∃ x n, xs = [x] ∧ LenV K x H n ∧ Q (.int n) H) call_len (by rfl) T.b_len PySem.boot_len (pa_cons (pv 0) pa_nil)) pe_int (nomark _)) (pw_or1 (pt_not (pt_val (pe_callB (r := rIsi K) call_isi (by rfl) T.b_isinstance boot_isinstance (pa_cons (pe_ix (r := rIx K) ix_seq (pv 0) pe_int (fun _ _ => rfl)) (pa_cons (pe_bltn (v := .ty "str") (by rfl) T.b_str boot_str rfl) pa_nil))))))))) (pss_one (ps_ret pe_bl)) pss_nil)
    (pss_cons (ps_set (i := 4) nd rfl (Or.inl rfl) (pe_call G_form_of (hr.mono (by decide)) (by rfl) g_form_of kp_form_of b_form_of .nil pass0 (pa_cons (pe_ix (r := rIx K) ix_seq (pv 0) pe_int (fun _ _ => rfl)) (pa_cons (pv 2) pa_nil))))
    (pss_cons (ps_if (PW.pt (pw_or (pt_cmpR op_isN (pv 4) pe_non (nomark _)) (pw_or (pt_cmpR op_ne (pe_callB (r := fun xs H Q => ∃ x n, xs = [x] ∧ LenV K x H n ∧ Q (.int n) H) call_len (by rfl) T.b_len PySem.boot_len (pa_cons (pv 4) pa_nil)) (pe_op op_sub (pe_callB (r := fun xs H Q => ∃ x n, xs = [x] ∧ LenV K x H n ∧ Q (.int n) H) call_len (by rfl) T.b_len PySem.boot_len (pa_cons (pv 0) pa_nil)) pe_int) (nomark _)) (pw_or1 (PW.pt (pw_and (pt_cmpR (r := rIn K false) op_in_seq (pe_ix (r := rIx K) ix_seq (pv 0) pe_int (fun _ _ => rfl)) (pe_glob (by rfl) g_DEEDS r_DEEDS) (by rfl)) (pw_and1 (pt_not (pt_val (pv 3)))))))))) (pss_one (ps_ret pe_bl)) pss_nil)
    (pss_one (ps_ret (pe_callB (r := rAll K) (cr_all rfl) (by rfl) T.b_all (by decide +kernel) (pa_cons (pe_lc (own := [("sign", 5), ("value", 6)]) rfl nd (pi_zipST (by rfl) T.b_zip (pa_cons (pv 4) (pa_cons (pe_sliceT K rfl (pv 0) (po_some pe_int) po_none) pa_nil))) (blkOk_by (N := N_is_row) (sc := defScope s_is_row) (by decide +kernel)) (fun _ _ _ _ _ => (pg_tupK (n := 2) K rfl rfl (pgs_cons (pg_name (i := 5) nd rfl (Or.inl rfl)) (pgs_cons (pg_name (i := 6) nd rfl (Or.inl rfl)) pgs_nil)))) (fun _ _ _ _ _ => pts_nil) (fun _ _ _ _ _ => (pe_call G_is_item (hr.mono (by decide)) (by rfl) g_is_item kp_is_item b_is_item .nil pass0 (pa_cons (pv 5) (pa_cons (pv 6) (pa_cons (pv 1) pa_nil)))))) pa_nil))))))), fun Z G vs ds hv hp => ?_⟩
  obtain ⟨d, m, e, fs, b, rfl, hd, hfs⟩ := hp
  obtain ⟨v, u, z, y, rfl, dv, du, dz, dy⟩ := all4 hv
  refine SR.to ?_ (d := .bool (rowD d m fs b)) (by rcases hfs.1 with rfl | rfl <;> rfl)
  by_cases ht : isTupD d = true
  · obtain ⟨xs, rfl⟩ := is_tup ht
    obtain ⟨hl, hx⟩ := small_tuple hd
    have hlen : ∀ {σ : L2.St} {G : Hp}, Dx K G v (.tuple xs) → σ[0]? = some (some v) → Ev K Z (tCB (fun xs H Q => ∃ x n, xs = [x] ∧ LenV K x H n ∧ Q (.int n) H) (tCons (tVar 0) tNil)) σ G (.int xs.length) := fun dv e => ev_cb (eva_cons (ev_var e dv) eva_nil) rc_lenT
    cases xs with
    | nil =>
      refine sr_if (b := true) ((an_or (b2 := true) (an_not (an_tB (ev_isi rfl (.inl dv) (kb_tuple _)))) fun _ => (an_or (b2 := true) (an_test (ev_op (hlen dv rfl) ev_int rd_eqI)) fun e => by cases e).to (by simp)).to (by simp)) (fun _ => sr_ret (ev_bl.to rfl)) fun e => by cases e
    | cons h r =>
      have h0 : decide ((((h :: r).length : Nat) : Int) = 0) = false := decide_eq_false (by rw [List.length_cons]; omega)
      have hi : Ev K Z (tOp (rIx K) (tVar 0) (tC (.int 0))) (start N_is_row [v, u, z, y]) G h := ev_op (ev_var rfl dv) ev_int (rd_ixST atI_zero)
      refine sr_if (b := !isStrD h) ((an_or (an_not (an_tB (ev_isi rfl (.inl dv) (kb_tuple _)))) fun _ => an_or ((an_test (ev_op (hlen dv rfl) ev_int rd_eqI)).to h0) fun _ => an_not (an_tB (ev_isiE hi (kb_str h)))).to (by rfl)) (fun e => sr_ret (ev_bl.to ?_)) fun e => ?_
      · rw [Bool.not_eq_true'] at e
        show PyData.bool false = .bool (rowD (.tuple (h :: r)) m fs b)
        rw [head_not e]
      · rw [Bool.not_eq_false'] at e
        obtain ⟨x, rfl⟩ := is_str e
        have hsx := hx (.str x) (by simp)
        refine sr_set (d1 := formD x fs) ((ev_call (eva_cons hi (eva_cons (ev_var rfl dz) eva_nil)) ⟨x, _, fs, rfl, hsx, hfs⟩).to (by rcases hfs.1 with rfl | rfl <;> rfl)) fun fv G1 s1 df => ?_
        replace dv := Dx.same s1 _ _ dv
        replace du := Dx.same s1 _ _ du
        replace dz := Dx.same s1 _ _ dz
        replace dy := Dx.same s1 _ _ dy
        rcases form_is x fs with hf | ⟨form, hf, h4, hsg⟩
        · rw [hf] at df
          rw [rowD_no hf]
          exact sr_if (b := true) ((an_or (b2 := true) (an_test (ev_op (ev_var rfl df) ev_non rd_isN)) fun e => by cases e).to rfl) (fun _ => sr_ret ev_bl) fun e => by cases e
        · rw [hf] at df
          rw [rowD_eq hf]
          have hi' : Ev K Z (tOp (rIx K) (tVar 0) (tC (.int 0))) ((start N_is_row [v, u, z, y]).set 4 (some fv)) G1 (.str x) := ev_op (ev_var rfl dv) ev_int (rd_ixST atI_zero)
          have hlf : (!decide (((form.length : Nat) : Int) = ((((.str x : PyData) :: r).length : Nat) : Int) - 1)) = !decide (form.length = r.length) := by
            congr 1
            refine decide_eq_decide.mpr ?_
            rw [List.length_cons]
            omega
          refine sr_if (b := !(decide (form.length = r.length) && !(deedWord x && !b))) ((an_or (an_test (ev_op (ev_var rfl df) ev_non rd_isN)) fun _ => an_or ((an_test (ev_op (ev_cb (eva_cons (ev_var rfl df) eva_nil) (rc_lenS (line1000 (by omega)))) (ev_op (hlen dv rfl) ev_int (rd_i0 fun _ => .int _)) rd_neI)).to hlf) fun _ => an_and (b1 := deedWord x) (an_test (ev_op hi' (ev_k (h_DEEDS _)) (rd_in rfl rfl (.inr rfl)))) fun _ => an_not (an_tB (ev_var rfl dy))).to ?_) (fun e => sr_ret (ev_bl.to ?_)) fun e => sr_ret ?_
          · show (false || (!decide (form.length = r.length) || (deedWord x && !b))) = _
            cases decide (form.length = r.length) <;> cases deedWord x <;> cases b <;> rfl
          · rw [Bool.not_eq_true'] at e
            rw [e]; rfl
          · rw [Bool.not_eq_false'] at e
            rw [e, Bool.true_and]
            refine ev_allc (p := itemP m) (evi_zipST (eva_cons (ev_var rfl df) (eva_cons ((ev_slT (ev_var rfl dv) (evo_some ev_int) evo_none).to (by rw [cut_tail])) eva_nil))) ?_ fun Z' i d G' hi2 s => ?_
            · refine line1000 ?_
              unfold zipD signsD
              rw [List.length_map, List.length_zip, List.length_map, Array.length_toList]
              have : form.cps.size ≤ 4 := h4
              omega
            · obtain ⟨c, e2, rfl, hc, he⟩ := zip_mem hi2
              exact eg_two fun v1 v2 G2 s2 d1 d2 => ⟨rfl, ev_call (eva_cons (ev_var rfl d1) (eva_cons (ev_var rfl d2) (eva_cons (ev_var rfl (Dx.same (s.trans s2) _ _ du)) eva_nil))) ⟨⟨#[c]⟩, e2, m, rfl, hx e2 (List.mem_cons_of_mem _ he), hsg c hc⟩⟩
  · have ht' : isTupD d = false := by simpa using ht
    rw [tup_not ht']
    exact sr_if (b := true) ((an_or (b2 := true) (an_not (an_tB (ev_isi rfl (.inl dv) (kb_tuple d)))) fun e => by rw [ht'] at e; cases e).to (by rw [ht']; rfl)) (fun _ => sr_ret ev_bl) fun e => by cases e
end
end K81
namespace K81
open PySem PySem.Spec PyProof.Rows L2

section
variable {P : Program} {w : World} {K : PySem.W.Frag} {mg : Str → Option Value} {base : Heap}

def goWord (x : Str) : Bool := ([.str "unless", .str "go"] : List PyData).any fun y => PyData.eqv y (.str x)
/-- a row, with a number at its end where it leads -/
def leadRow : PyData → Bool
  | .tuple (.str h :: t) => !goWord h || (match t.getLast? with | some (.int k) => decide (0 ≤ k) | _ => false)
  | _ => false
def leadTo (rs : List PyData) (i k : Int) : Bool := (decide (i < k) && decide (k ≤ (rs.length : Nat))) || (decide (k ≤ i) && PyData.eqv (rs.getD k.toNat .none) (.tuple [.str "spend"]))
def leadOf (rs : List PyData) (i : Int) : PyData → Bool
  | .tuple (.str h :: t) => if goWord h = true then (match t.getLast? with | some (.int k) => leadTo rs i k | _ => true) else true
  | _ => true
def leadD (rs : List PyData) (i : Nat) : Bool := leadOf rs i (rs.getD i .none)
theorem leadRow_of {d : PyData} (h : leadRow d = true) : ∃ x t, d = .tuple (.str x :: t) ∧ (goWord x = true → ∃ k : Int, t.getLast? = some (.int k) ∧ 0 ≤ k) := by
  unfold leadRow at h
  split at h
  · rename_i x t
    refine ⟨x, t, rfl, fun e => ?_⟩
    rw [e] at h
    simp only [Bool.not_true, Bool.false_or] at h
    split at h
    · rename_i k e2
      exact ⟨k, e2, of_decide_eq_true h⟩
    · cases h
  · cases h
theorem leadOf_no {rs t : List PyData} {i : Int} {x : Str} (h : goWord x = false) : leadOf rs i (.tuple (.str x :: t)) = true := by
  unfold leadOf; simp [h]
theorem leadOf_yes {rs t : List PyData} {i k : Int} {x : Str} (h : goWord x = true) (e : t.getLast? = some (.int k)) : leadOf rs i (.tuple (.str x :: t)) = leadTo rs i k := by
  unfold leadOf; simp [h, e]
theorem atI_nat {α : Type} {l : List α} {i : Nat} {x : α} (h : l[i]? = some x) : atI l (i : Int) = some x := by
  have hi := (List.getElem?_eq_some_iff.mp h).1
  have h1 : ¬ ((i : Int) < 0) := by omega
  have h2 : (i : Int) < (l.length : Int) := by omega
  simp [atI, ixN, h1, h2, h]
def N_leads_well : List Str := ["rows", "at", "to"]
theorem sc_leads_well : FnScope N_leads_well ["rows", "at"] (defScope s_leads_well) := ⟨rfl, rfl, rfl, by decide +kernel, rfl, by decide +kernel, by decide +kernel⟩
abbrev sp_leads_well (K : PySem.W.Frag) : Sp := spD K (fun ds => ∃ (rs : List PyData) (i : Nat), ds = [.tuple rs, .int i] ∧ (∀ r ∈ rs, smallD r = true ∧ r.depth ≤ 60 ∧ leadRow r = true) ∧ i < rs.length) (fun ds => match ds with | [.tuple rs, .int i] => .bool (leadD rs i.toNat) | _ => .none)
theorem ok_leads_well (A0 : At K mg "leads_well" s_leads_well ["rows", "at"]) (T : Tx w K mg) : Df P w K mg base "leads_well" 1 ["rows", "at"] (sp_leads_well K) := by
  obtain ⟨a_SPEND, g_SPEND, h_SPEND⟩ := T.c_SPEND
  have r_SPEND : RelV (.ref a_SPEND) (.ref a_SPEND) := rfl
  refine df_pure A0 sc_leads_well ?_ (fun f cdv A outer s H E hr => ?_)
  · rintro ds hp; first | (obtain ⟨_, _, _, _, _, rfl, _⟩ := hp; rfl) | (obtain ⟨_, _, _, _, rfl, _⟩ := hp; rfl) | (obtain ⟨_, _, _, rfl, _⟩ := hp; rfl) | (obtain ⟨_, rfl⟩ := hp; rfl) | (obtain ⟨_, _, rfl⟩ := hp; rfl) | (obtain ⟨_, _, _, rfl⟩ := hp; rfl) | (obtain ⟨_, _, _, _, rfl⟩ := hp; rfl) | (obtain ⟨_, _, _, _, rfl, _⟩ := hp; rfl) | (obtain ⟨_, _, _, rfl, _⟩ := hp; rfl) | (obtain ⟨_, _, rfl, _⟩ := hp; rfl) | (obtain ⟨_, rfl, _⟩ := hp; rfl)
  have nd := sc_leads_well.nd
  refine ⟨_, (pss_cons (ps_if (pt_cmpR (r := rIn K true) op_notIn_seq (pe_ix (r := rIx K) ix_seq (pe_ix (r := rIx K) ix_seq (pv 0) (pv 1) (fun _ _ => rfl)) pe_int (fun _ _ => rfl)) (pe_tup (pa_cons pe_str (pa_cons pe_str pa_nil))) (by rfl)) (pss_one (ps_ret pe_bl)) pss_nil)
    (pss_cons (ps_set (i := 2) nd rfl (Or.inl rfl) (pe_ix (r := rIx K) ix_seq (pe_ix (r := rIx K) ix_seq (pv 0) (pv 1) (fun _ _ => rfl)) (pe_un un_neg pe_int) (fun _ _ => rfl)))
    (pss_one (ps_ret (pe_or (pe_chain op_lt op_le (pv 1) (pv 2) (pe_callB (r := fun xs H Q => ∃ x n, xs = [x] ∧ LenV K x H n ∧ Q (.int n) H) call_len (by rfl) T.b_len PySem.boot_len (pa_cons (pv 0) pa_nil))) (pe_one (pe_and (pe_cmpR op_le (pv 2) (pv 1) (nomark _)) (pe_one (pe_cmpR (r := rEqD K) (op_eqD hr.units) (pe_ix (r := rIx K) ix_seq (pv 0) (pv 2) (fun _ _ => rfl)) (pe_glob (by rfl) g_SPEND r_SPEND) (nomark _)))))))))), fun Z G vs ds hv hp => ?_⟩
  obtain ⟨rs, i, rfl, hrs, hi⟩ := hp
  obtain ⟨v, u, rfl, dv, du⟩ := all2 hv
  show SR K Z _ _ G (.bool (leadOf rs ((i : Int).toNat : Nat) (rs.getD (i : Int).toNat .none)))
  rw [Int.toNat_natCast]
  have hg : rs[i]? = some rs[i] := List.getElem?_eq_getElem hi
  have hgd : rs.getD i .none = rs[i] := by rw [List.getD_eq_getElem?_getD, hg]; rfl
  rw [hgd]
  obtain ⟨hs, hd, hl⟩ := hrs _ (List.getElem_mem hi)
  obtain ⟨x, t, hx, hk⟩ := leadRow_of hl
  rw [hx] at hg ⊢
  have hrow : ∀ {σ : L2.St} {G : Hp}, Dx K G v (.tuple rs) → Dx K G u (.int i) → σ[0]? = some (some v) → σ[1]? = some (some u) → Ev K Z (tOp (rIx K) (tVar 0) (tVar 1)) σ G (.tuple (.str x :: t)) := fun dv du e1 e2 => ev_op (ev_var e1 dv) (ev_var e2 du) (rd_ixST (atI_nat hg))
  refine sr_if (b := !goWord x) (an_test (ev_op (ev_op (hrow dv du rfl rfl) ev_int (rd_ixST (d := .str x) atI_zero)) (ev_tup (eva_cons ev_str (eva_cons ev_str eva_nil)) (line1000 (by simp))) (rd_notIn (ds := [.str "unless", .str "go"]) rfl rfl (.inr rfl)))) (fun e => sr_ret (ev_bl.to ?_)) fun e => ?_
  · rw [Bool.not_eq_true'] at e
    rw [leadOf_no e]
  rw [Bool.not_eq_false'] at e
  obtain ⟨k, ek, k0⟩ := hk e
  rw [leadOf_yes e ek]
  refine sr_set (d1 := .int k) (ev_op (hrow dv du rfl rfl) (ev_neg ev_int) (rd_ixST (atI_end ek))) fun tv G1 s1 dt => sr_ret ?_
  replace dv := Dx.same s1 _ _ dv
  replace du := Dx.same s1 _ _ du
  have hlen : Ev K Z (tCB (fun xs H Q => ∃ x n, xs = [x] ∧ LenV K x H n ∧ Q (.int n) H) (tCons (tVar 0) tNil)) ((start N_leads_well [v, u]).set 2 (some tv)) G1 (.int rs.length) := ev_cb (eva_cons (ev_var rfl dv) eva_nil) rc_lenT
  refine ev_orV (ev_chain (ev_var rfl du) (ev_var rfl dt) hlen (rd_i0 fun _ => .bl _) (rd_i0 fun _ => .bl _)) fun e1 => ev_andV (ev_op (ev_var rfl dt) (ev_var rfl du) (rd_i0 fun _ => .bl _)) fun e2 => ?_
  have e2 := of_decide_eq_true e2
  have hkl : k.toNat < rs.length := by omega
  have hg2 : rs[k.toNat]? = some rs[k.toNat] := List.getElem?_eq_getElem hkl
  have hgd2 : rs.getD k.toNat .none = rs[k.toNat] := by rw [List.getD_eq_getElem?_getD, hg2]; rfl
  obtain ⟨hs2, hd2, _⟩ := hrs _ (List.getElem_mem hkl)
  rw [hgd2]
  have ha : atI rs k = some rs[k.toNat] := by
    have := atI_nat hg2
    rwa [Int.toNat_of_nonneg k0] at this
  exact ev_op (ev_op (ev_var rfl dv) (ev_var rfl dt) (rd_ixST ha)) (ev_k (h_SPEND _)) (rd_eqD (shaped_small hs2 (by omega)) (by decide +kernel))

def leadP (rs : List PyData) : PyData → Bool
  | .int k => leadD rs k.toNat
  | _ => false
def rowsD (d : PyData) (many : Int) (fs : List PyData) (deed : Bool) : Bool := match d with
  | .tuple rs => rs.all (fun r => rowD r many fs deed) && (rngD 0 rs.length).all (leadP rs)
  | _ => false
theorem within_int {d lo hi : PyData} (h : withinD d lo hi = true) : ∃ i, d = .int i ∧ leD lo i = true := by
  cases d with
  | int i =>
    change (leD lo i && geD hi i) = true at h
    rw [Bool.and_eq_true] at h
    exact ⟨i, rfl, h.1⟩
  | _ => cases h
theorem rowD_lead {r : PyData} {m : Int} {fs : List PyData} {deed : Bool} (h : rowD r m fs deed = true) : leadRow r = true := by
  by_cases ht : isTupD r = true
  · obtain ⟨xs, rfl⟩ := is_tup ht
    cases xs with
    | nil => cases h
    | cons a t =>
      by_cases hs : isStrD a = true
      · obtain ⟨x, rfl⟩ := is_str hs
        show (!goWord x || _) = true
        by_cases hg : goWord x = true
        · have hx : x = "unless" ∨ x = "go" := by
            unfold goWord at hg
            simp only [List.any_cons, List.any_nil, PyData.eqv, Bool.or_false, Bool.or_eq_true, beq_iff_eq] at hg
            rcases hg with hg | hg
            · exact .inl hg.symm
            · exact .inr hg.symm
          rw [hg]
          simp only [Bool.not_true, Bool.false_or]
          rcases hx with rfl | rfl
          · have hf : formD "unless" fs = .str "rw" := form_some rfl
            rw [rowD_eq hf, Bool.and_eq_true, Bool.and_eq_true] at h
            obtain ⟨⟨h1, _⟩, h2⟩ := h
            have h1 : (2 : Nat) = t.length := of_decide_eq_true h1
            match t, h1 with
            | [p, q], _ =>
              have h3 : (itemP m (.tuple [.str ⟨#[114]⟩, p]) && (itemP m (.tuple [.str ⟨#[119]⟩, q]) && true)) = true := h2
              rw [Bool.and_true, Bool.and_eq_true] at h3
              obtain ⟨k, rfl, hk⟩ := within_int (d := q) (lo := .int 0) (hi := .none) h3.2
              show (match ([p, PyData.int k] : List PyData).getLast? with | some (.int k) => decide (0 ≤ k) | _ => false) = true
              exact hk
          · have hf : formD "go" fs = .str "w" := form_some rfl
            rw [rowD_eq hf, Bool.and_eq_true, Bool.and_eq_true] at h
            obtain ⟨⟨h1, _⟩, h2⟩ := h
            have h1 : (1 : Nat) = t.length := of_decide_eq_true h1
            match t, h1 with
            | [q], _ =>
              have h3 : (itemP m (.tuple [.str ⟨#[119]⟩, q]) && true) = true := h2
              rw [Bool.and_true] at h3
              obtain ⟨k, rfl, hk⟩ := within_int (d := q) (lo := .int 0) (hi := .none) h3
              exact hk
        · rw [Bool.not_eq_true] at hg
          rw [hg]; rfl
      · rw [head_not (by simpa using hs)] at h; cases h
  · rw [tup_not (by simpa using ht)] at h; cases h
def N_are_rows : List Str := ["rows", "many", "functions", "is_deed", "row", "at"]
theorem sc_are_rows : FnScope N_are_rows ["rows", "many", "functions", "is_deed"] (defScope s_are_rows) := ⟨rfl, rfl, rfl, by decide +kernel, rfl, by decide +kernel, by decide +kernel⟩
abbrev sp_are_rows (K : PySem.W.Frag) : Sp := spD K (fun ds => ∃ (d : PyData) (m : Int) (e : PyData) (fs : List PyData) (b : Bool), ds = [d, .int m, e, .bool b] ∧ smallD d = true ∧ d.depth ≤ 60 ∧ isFuns e fs) (fun ds => match ds with | [d, .int m, .list fs, .bool b] => .bool (rowsD d m fs b) | [d, .int m, .tuple fs, .bool b] => .bool (rowsD d m fs b) | _ => .none)
theorem ok_are_rows (A0 : At K mg "are_rows" s_are_rows ["rows", "many", "functions", "is_deed"]) (T : Tx w K mg) (D_is_row : Df P w K mg base "is_row" 4 ["row", "many", "functions", "is_deed"] (sp_is_row K)) (D_leads_well : Df P w K mg base "leads_well" 1 ["rows", "at"] (sp_leads_well K)) : Df P w K mg base "are_rows" 5 ["rows", "many", "functions", "is_deed"] (sp_are_rows K) := by
  obtain ⟨f_is_row, fd_is_row, g_is_row, kp_is_row, b_is_row, G_is_row⟩ := D_is_row
  obtain ⟨f_leads_well, fd_leads_well, g_leads_well, kp_leads_well, b_leads_well, G_leads_well⟩ := D_leads_well
  refine df_pure A0 sc_are_rows ?_ (fun f cdv A outer s H E hr => ?_)
  · rintro ds hp; first | (obtain ⟨_, _, _, _, _, rfl, _⟩ := hp; rfl) | (obtain ⟨_, _, _, _, rfl, _⟩ := hp; rfl) | (obtain ⟨_, _, _, rfl, _⟩ := hp; rfl) | (obtain ⟨_, rfl⟩ := hp; rfl) | (obtain ⟨_, _, rfl⟩ := hp; rfl) | (obtain ⟨_, _, _, rfl⟩ := hp; rfl) | (obtain ⟨_, _, _, _, rfl⟩ := hp; rfl) | (obtain ⟨_, _, _, _, rfl, _⟩ := hp; rfl) | (obtain ⟨_, _, _, rfl, _⟩ := hp; rfl) | (obtain ⟨_, _, rfl, _⟩ := hp; rfl) | (obtain ⟨_, rfl, _⟩ := hp; rfl)
  have nd := sc_are_rows.nd
  refine ⟨_, (pss_cons (ps_if (PW.pt (pw_or (pt_not (pt_val (pe_callB (r := rIsi K) call_isi (by rfl) T.b_isinstance boot_isinstance (pa_cons (pv 0) (pa_cons (pe_bltn (v := .ty "tuple") (by rfl) T.b_tuple boot_tuple rfl) pa_nil))))) (pw_or1 (pt_not (pt_val (pe_callB (r := rAll K) (cr_all rfl) (by rfl) T.b_all (by decide +kernel) (pa_cons (pe_lc (own := [("row", 4)]) rfl nd (pi_tup (pv 0)) (blkOk_by (N := N_are_rows) (sc := defScope s_are_rows) (by decide +kernel)) (fun _ _ _ _ _ => (pg_name (i := 4) nd rfl (Or.inl rfl))) (fun _ _ _ _ _ => pts_nil) (fun _ _ _ _ _ => (pe_call G_is_row (hr.mono (by decide)) (by rfl) g_is_row kp_is_row b_is_row .nil pass0 (pa_cons (pv 4) (pa_cons (pv 1) (pa_cons (pv 2) (pa_cons (pv 3) pa_nil))))))) pa_nil))))))) (pss_one (ps_ret pe_bl)) pss_nil)
    (pss_one (ps_ret (pe_callB (r := rAll K) (cr_all rfl) (by rfl) T.b_all (by decide +kernel) (pa_cons (pe_lc (own := [("at", 5)]) rfl nd (pi_range1 (by rfl) T.b_range (pa_cons (pe_callB (r := fun xs H Q => ∃ x n, xs = [x] ∧ LenV K x H n ∧ Q (.int n) H) call_len (by rfl) T.b_len PySem.boot_len (pa_cons (pv 0) pa_nil)) pa_nil)) (blkOk_by (N := N_are_rows) (sc := defScope s_are_rows) (by decide +kernel)) (fun _ _ _ _ _ => (pg_name (i := 5) nd rfl (Or.inl rfl))) (fun _ _ _ _ _ => pts_nil) (fun _ _ _ _ _ => (pe_call G_leads_well (hr.mono (by decide)) (by rfl) g_leads_well kp_leads_well b_leads_well .nil pass0 (pa_cons (pv 0) (pa_cons (pv 5) pa_nil))))) pa_nil))))), fun Z G vs ds hv hp => ?_⟩
  obtain ⟨d, m, e, fs, b, rfl, hd, hdp, hfs⟩ := hp
  obtain ⟨v, u, z, y, rfl, dv, du, dz, dy⟩ := all4 hv
  refine SR.to ?_ (d := .bool (rowsD d m fs b)) (by rcases hfs.1 with rfl | rfl <;> rfl)
  by_cases ht : isTupD d = true
  · obtain ⟨xs, rfl⟩ := is_tup ht
    obtain ⟨hl, hx⟩ := small_tuple hd
    have hdx : ∀ x ∈ xs, x.depth ≤ 59 := depth_tuple.mp hdp
    refine sr_if (b := !xs.all fun r => rowD r m fs b) ((an_or (an_not (an_tB (ev_isi rfl (.inl dv) (kb_tuple _)))) fun _ => an_not (an_tB (ev_allc (p := fun r => rowD r m fs b) (evi_tup (ev_var rfl dv)) (line1000 hl) fun Z' i d G' hi s => eg_name fun v1 G2 s2 d1 => ⟨rfl, ?_⟩))).to (by rfl)) (fun e => sr_ret (ev_bl.to ?_)) fun e => sr_ret ?_
    · have ss := s.trans s2
      exact (ev_call (eva_cons (ev_var rfl d1) (eva_cons (ev_var rfl (Dx.same ss _ _ du)) (eva_cons (ev_var rfl (Dx.same ss _ _ dz)) (eva_cons (ev_var rfl (Dx.same ss _ _ dy)) eva_nil)))) ⟨d, m, _, fs, b, rfl, hx d (List.mem_of_getElem? hi), hfs⟩).to (by rcases hfs.1 with rfl | rfl <;> rfl)
    · rw [Bool.not_eq_true'] at e
      show PyData.bool false = .bool (xs.all (fun r => rowD r m fs b) && _)
      rw [e]; rfl
    · rw [Bool.not_eq_false'] at e
      show Ev K Z _ _ G (.bool (xs.all (fun r => rowD r m fs b) && (rngD 0 xs.length).all (leadP xs)))
      rw [e, Bool.true_and]
      have hall := List.all_eq_true.mp e
      refine ev_allc (p := leadP xs) (evi_rng1 (n := xs.length) (eva_cons (ev_cb (eva_cons (ev_var rfl dv) eva_nil) rc_lenT) eva_nil) (by omega) (by omega)) (by rw [rngD_length]; exact line1000 (by omega)) fun Z' i d G' hi s => ?_
      have hi' := (List.getElem?_eq_some_iff.mp hi).1
      rw [rngD_length] at hi'
      rw [rngD_get hi', Int.zero_add] at hi
      cases hi
      exact eg_name fun v1 G2 s2 d1 => ⟨rfl, ev_call (eva_cons (ev_var rfl (Dx.same (s.trans s2) _ _ dv)) (eva_cons (ev_var rfl d1) eva_nil)) ⟨xs, i, rfl, fun r hr => ⟨hx r hr, Nat.le_trans (hdx r hr) (by decide), rowD_lead (hall r hr)⟩, hi'⟩⟩
  · have ht' : isTupD d = false := by simpa using ht
    refine sr_if (b := true) ((an_or (b2 := true) (an_not (an_tB (ev_isi rfl (.inl dv) (kb_tuple d)))) fun e => by rw [ht'] at e; cases e).to (by rw [ht']; rfl)) (fun _ => sr_ret (ev_bl.to ?_)) fun e => by cases e
    cases d <;> first | rfl | (cases ht'; done)

def sameName (n : PyData) : PyData → Bool
  | .tuple (m :: _) => PyData.eqv n m
  | _ => false
def blocksD (d : PyData) (many : Int) (fs : List PyData) : Bool := match d with
  | .tuple bl => decide (1 ≤ bl.length) && decide (bl.length ≤ 6) && bl.all fun b => rowsD b many fs false
  | _ => false
def funD (d : PyData) (many : Int) (fs : List PyData) : Bool := match d with
  | .tuple [n, ps, bs] => nameD n && namesD ps && !(fs.any (sameName n)) && blocksD bs many fs
  | _ => false
theorem funD_eq {n ps bs : PyData} {m : Int} {fs : List PyData} : funD (.tuple [n, ps, bs]) m fs = (nameD n && namesD ps && !(fs.any (sameName n)) && blocksD bs m fs) := rfl
theorem funD_len {xs : List PyData} {m : Int} {fs : List PyData} (h : xs.length ≠ 3) : funD (.tuple xs) m fs = false := by
  match xs, h with
  | [], _ => rfl
  | [_], _ => rfl
  | [_, _], _ => rfl
  | [_, _, _], h => exact absurd rfl h
  | _ :: _ :: _ :: _ :: _, _ => rfl
theorem depth3 {n p q : PyData} {k : Nat} (h : (PyData.tuple [n, p, q]).depth ≤ k + 1) : n.depth ≤ k ∧ p.depth ≤ k ∧ q.depth ≤ k := by
  have := depth_tuple.mp h
  exact ⟨this n (by simp), this p (by simp), this q (by simp)⟩
def N_is_function : List Str := ["value", "many", "functions", "name", "_", "block"]
theorem sc_is_function : FnScope N_is_function ["value", "many", "functions"] (defScope s_is_function) := ⟨rfl, rfl, rfl, by decide +kernel, rfl, by decide +kernel, by decide +kernel⟩
abbrev sp_is_function (K : PySem.W.Frag) : Sp := spD K (fun ds => ∃ (d : PyData) (m : Int) (e : PyData) (fs : List PyData), ds = [d, .int m, e] ∧ smallD d = true ∧ d.depth ≤ 61 ∧ isFuns e fs) (fun ds => match ds with | [d, .int m, .list fs] => .bool (funD d m fs) | [d, .int m, .tuple fs] => .bool (funD d m fs) | _ => .none)
theorem ok_is_function (A0 : At K mg "is_function" s_is_function ["value", "many", "functions"]) (T : Tx w K mg) (D_are_names : Df P w K mg base "are_names" 3 ["value"] (sp_are_names K)) (D_is_name : Df P w K mg base "is_name" 2 ["value"] (sp_is_name K)) (D_are_rows : Df P w K mg base "are_rows" 5 ["rows", "many", "functions", "is_deed"] (sp_are_rows K)) : Df P w K mg base "is_function" 6 ["value", "many", "functions"] (sp_is_function K) := by
  obtain ⟨t_MOST_NAMES, g_MOST_NAMES⟩ := T.c_MOST_NAMES
  have r_MOST_NAMES : RelV (.int 6) (.int 6 t_MOST_NAMES) := ⟨_, rfl⟩
  obtain ⟨f_are_names, fd_are_names, g_are_names, kp_are_names, b_are_names, G_are_names⟩ := D_are_names
  obtain ⟨f_is_name, fd_is_name, g_is_name, kp_is_name, b_is_name, G_is_name⟩ := D_is_name
  obtain ⟨f_are_rows, fd_are_rows, g_are_rows, kp_are_rows, b_are_rows, G_are_rows⟩ := D_are_rows
  refine df_pure A0 sc_is_function ?_ (fun f cdv A outer s H E hr => ?_)
  · rintro ds hp; first | (obtain ⟨_, _, _, _, _, rfl, _⟩ := hp; rfl) | (obtain ⟨_, _, _, _, rfl, _⟩ := hp; rfl) | (obtain ⟨_, _, _, rfl, _⟩ := hp; rfl) | (obtain ⟨_, rfl⟩ := hp; rfl) | (obtain ⟨_, _, rfl⟩ := hp; rfl) | (obtain ⟨_, _, _, rfl⟩ := hp; rfl) | (obtain ⟨_, _, _, _, rfl⟩ := hp; rfl) | (obtain ⟨_, _, _, _, rfl, _⟩ := hp; rfl) | (obtain ⟨_, _, _, rfl, _⟩ := hp; rfl) | (obtain ⟨_, _, rfl, _⟩ := hp; rfl) | (obtain ⟨_, rfl, _⟩ := hp; rfl)
  have nd := sc_is_function.nd
  refine ⟨_, (pss_cons (ps_if (PW.pt (pw_or (pt_not (pt_val (pe_callB (r := rIsi K) call_isi (by rfl) T.b_isinstance boot_isinstance (pa_cons (pv 0) (pa_cons (pe_bltn (v := .ty "tuple") (by rfl) T.b_tuple boot_tuple rfl) pa_nil))))) (pw_or (pt_cmpR op_ne (pe_callB (r := fun xs H Q => ∃ x n, xs = [x] ∧ LenV K x H n ∧ Q (.int n) H) call_len (by rfl) T.b_len PySem.boot_len (pa_cons (pv 0) pa_nil)) pe_int (nomark _)) (pw_or (pt_not (pt_val (pe_call G_is_name (hr.mono (by decide)) (by rfl) g_is_name kp_is_name b_is_name .nil pass0 (pa_cons (pe_ix (r := rIx K) ix_seq (pv 0) pe_int (fun _ _ => rfl)) pa_nil)))) (pw_or1 (pt_not (pt_val (pe_call G_are_names (hr.mono (by decide)) (by rfl) g_are_names kp_are_names b_are_names .nil pass0 (pa_cons (pe_ix (r := rIx K) ix_seq (pv 0) pe_int (fun _ _ => rfl)) pa_nil))))))))) (pss_one (ps_ret pe_bl)) pss_nil)
    (pss_cons (ps_if (PW.pt (pw_or (pt_val (pe_callB (r := rAny K) (cr_any rfl) (by rfl) T.b_any (by decide +kernel) (pa_cons (pe_lc (own := [("name", 3), ("_", 4), ("_", 4)]) rfl nd (PI.or (pi_list (pv 2)) (pi_tup (pv 2))) (blkOk_by (N := N_is_function) (sc := defScope s_is_function) (by decide +kernel)) (fun _ _ _ _ _ => (pg_tupK (n := 3) K rfl rfl (pgs_cons (pg_name (i := 3) nd rfl (Or.inl rfl)) (pgs_cons (pg_name (i := 4) nd rfl (Or.inl rfl)) (pgs_cons (pg_name (i := 4) nd rfl (Or.inl rfl)) pgs_nil))))) (fun _ _ _ _ _ => pts_nil) (fun _ _ _ _ _ => (pe_cmpR (r := rEqD K) (op_eqD hr.units) (pe_ix (r := rIx K) ix_seq (pv 0) pe_int (fun _ _ => rfl)) (pv 3) (nomark _)))) pa_nil))) (pw_or1 (pt_not (pt_val (pe_callB (r := rIsi K) call_isi (by rfl) T.b_isinstance boot_isinstance (pa_cons (pe_ix (r := rIx K) ix_seq (pv 0) pe_int (fun _ _ => rfl)) (pa_cons (pe_bltn (v := .ty "tuple") (by rfl) T.b_tuple boot_tuple rfl) pa_nil)))))))) (pss_one (ps_ret pe_bl)) pss_nil)
    (pss_cons (ps_if (pt_not (pt_chain op_le op_le pe_int (pe_callB (r := fun xs H Q => ∃ x n, xs = [x] ∧ LenV K x H n ∧ Q (.int n) H) call_len (by rfl) T.b_len PySem.boot_len (pa_cons (pe_ix (r := rIx K) ix_seq (pv 0) pe_int (fun _ _ => rfl)) pa_nil)) (pe_glob (by rfl) g_MOST_NAMES r_MOST_NAMES))) (pss_one (ps_ret pe_bl)) pss_nil)
    (pss_one (ps_ret (pe_callB (r := rAll K) (cr_all rfl) (by rfl) T.b_all (by decide +kernel) (pa_cons (pe_lc (own := [("block", 5)]) rfl nd (pi_tup (pe_ix (r := rIx K) ix_seq (pv 0) pe_int (fun _ _ => rfl))) (blkOk_by (N := N_is_function) (sc := defScope s_is_function) (by decide +kernel)) (fun _ _ _ _ _ => (pg_name (i := 5) nd rfl (Or.inl rfl))) (fun _ _ _ _ _ => pts_nil) (fun _ _ _ _ _ => (pe_call G_are_rows (hr.mono (by decide)) (by rfl) g_are_rows kp_are_rows b_are_rows .nil pass0 (pa_cons (pv 5) (pa_cons (pv 1) (pa_cons (pv 2) (pa_cons pe_bl pa_nil))))))) pa_nil))))))), fun Z G vs ds hv hp => ?_⟩
  obtain ⟨d, m, e, fs, rfl, hd, hdp, hfs⟩ := hp
  obtain ⟨v, u, z, rfl, dv, du, dz⟩ := all3 hv
  refine SR.to ?_ (d := .bool (funD d m fs)) (by rcases hfs.1 with rfl | rfl <;> rfl)
  by_cases ht : isTupD d = true
  · obtain ⟨xs, rfl⟩ := is_tup ht
    obtain ⟨hl, hx⟩ := small_tuple hd
    have hlen : Ev K Z (tCB (fun xs H Q => ∃ x n, xs = [x] ∧ LenV K x H n ∧ Q (.int n) H) (tCons (tVar 0) tNil)) (start N_is_function [v, u, z]) G (.int xs.length) := ev_cb (eva_cons (ev_var rfl dv) eva_nil) rc_lenT
    by_cases h3 : xs.length = 3
    · obtain ⟨n, ps, bs, rfl⟩ : ∃ n ps bs, xs = [n, ps, bs] := by
        match xs, h3 with
        | [n, ps, bs], _ => exact ⟨n, ps, bs, rfl⟩
      obtain ⟨hdn, hdps, hdb⟩ := depth3 (k := 60) hdp
      have sn := hx n (by simp)
      have sps := hx ps (by simp)
      have sb := hx bs (by simp)
      rw [funD_eq]
      have i0 : ∀ {Z : List Addr} {σ : L2.St} {G : Hp}, Dx K G v (.tuple [n, ps, bs]) → σ[0]? = some (some v) → Ev K Z (tOp (rIx K) (tVar 0) (tC (.int 0))) σ G n := fun dv e => ev_op (ev_var e dv) ev_int (rd_ixST atI_zero)
      have i1 : Ev K Z (tOp (rIx K) (tVar 0) (tC (.int 1))) (start N_is_function [v, u, z]) G ps := ev_op (ev_var rfl dv) ev_int (rd_ixST atI_1)
      have i2 : Ev K Z (tOp (rIx K) (tVar 0) (tC (.int 2))) (start N_is_function [v, u, z]) G bs := ev_op (ev_var rfl dv) ev_int (rd_ixST atI_2)
      refine sr_if (b := !(nameD n && namesD ps)) ((an_or (an_not (an_tB (ev_isi rfl (.inl dv) (kb_tuple _)))) fun _ => an_or (an_test (ev_op hlen ev_int rd_neI)) fun _ => an_or (an_not (an_tB (ev_call (eva_cons (i0 dv rfl) eva_nil) ⟨n, rfl, sn⟩))) fun _ => an_not (an_tB (ev_callQ i1 (.inl sps)))).to ?_) (fun e => sr_ret (ev_bl.to ?_)) fun e => ?_
      · show (false || (false || (!nameD n || !namesD ps))) = _
        cases nameD n <;> cases namesD ps <;> rfl
      · rw [Bool.not_eq_true'] at e
        rw [e]; rfl
      rw [Bool.not_eq_false'] at e
      rw [e, Bool.true_and]
      rw [Bool.and_eq_true] at e
      refine sr_if (b := fs.any (sameName n) || !isTupD bs) (an_or (an_tB (ev_anyc (p := sameName n) (items := fs) ?_ (line1000 hfs.2.1) fun Z' i d G' hi s => ?_)) fun _ => an_not (an_tB (ev_isiE i2 (kb_tuple bs)))) (fun e => sr_ret (ev_bl.to ?_)) fun e => ?_
      · rcases hfs.1 with rfl | rfl
        · exact evi_orL (evi_list (ev_var rfl dz))
        · exact evi_orR (evi_tup (ev_var rfl dz))
      · obtain ⟨ht, hsm⟩ := hfs.2.2 d (List.mem_of_getElem? hi)
        obtain ⟨n2, ps2, bs2, rfl, hn2⟩ := tri_of ht
        obtain ⟨_, hsm⟩ := small_tuple hsm
        refine eg_three fun v1 v2 v3 G2 s2 d1 d2 d3 => ⟨rfl, ?_⟩
        exact ev_op (i0 (Dx.same (s.trans s2) _ _ dv) rfl) (ev_var rfl d1) (rd_eqD (shaped_small sn (by omega)) (shaped_small (hsm n2 (by simp)) (by omega)))
      · rw [Bool.or_eq_true] at e
        rcases e with e | e
        · rw [e]; rfl
        · have : blocksD bs m fs = false := by cases bs <;> first | rfl | (cases e; done)
          rw [this, Bool.and_false]
      rw [Bool.or_eq_false_iff] at e
      obtain ⟨e1, e2⟩ := e
      rw [Bool.not_eq_false'] at e2
      obtain ⟨bl, rfl⟩ := is_tup e2
      rw [e1, Bool.not_false, Bool.true_and]
      obtain ⟨hbl, hbx⟩ := small_tuple sb
      have hdx : ∀ x ∈ bl, x.depth ≤ 59 := depth_tuple.mp hdb
      refine sr_if (b := !(decide (1 ≤ bl.length) && decide (bl.length ≤ 6))) ((an_not (an_chain ev_int (ev_cb (eva_cons i2 eva_nil) rc_lenT) ev_int (rd_i0 fun _ => .bl _) (rd_i0 fun _ => .bl _))).to ?_) (fun e => sr_ret (ev_bl.to ?_)) fun e => sr_ret ?_
      · congr 1
        congr 1
        · exact decide_eq_decide.mpr (by omega)
        · exact decide_eq_decide.mpr (by omega)
      · rw [Bool.not_eq_true'] at e
        show PyData.bool false = .bool (decide (1 ≤ bl.length) && decide (bl.length ≤ 6) && _)
        rw [e]; rfl
      · rw [Bool.not_eq_false'] at e
        show Ev K Z _ _ G (.bool (decide (1 ≤ bl.length) && decide (bl.length ≤ 6) && bl.all fun b => rowsD b m fs false))
        rw [e, Bool.true_and]
        refine ev_allc (p := fun b => rowsD b m fs false) (evi_tup i2) (line1000 hbl) fun Z' i d G' hi s => eg_name fun v1 G2 s2 d1 => ⟨rfl, ?_⟩
        have ss := s.trans s2
        have hm := List.mem_of_getElem? hi
        exact (ev_call (eva_cons (ev_var rfl d1) (eva_cons (ev_var rfl (Dx.same ss _ _ du)) (eva_cons (ev_var rfl (Dx.same ss _ _ dz)) (eva_cons ev_bl eva_nil)))) ⟨d, m, _, fs, false, rfl, hbx d hm, Nat.le_trans (hdx d hm) (by decide), hfs⟩).to (by rcases hfs.1 with rfl | rfl <;> rfl)
    · rw [funD_len h3]
      have : (!decide (((xs.length : Nat) : Int) = 3)) = true := by
        rw [decide_eq_false (by omega)]; rfl
      exact sr_if (b := true) ((an_or (b2 := true) (an_not (an_tB (ev_isi rfl (.inl dv) (kb_tuple _)))) fun _ => (an_or (b2 := true) ((an_test (ev_op hlen ev_int rd_neI)).to this) fun e => by cases e).to rfl).to rfl) (fun _ => sr_ret ev_bl) fun e => by cases e
  · have ht' : isTupD d = false := by simpa using ht
    refine sr_if (b := true) ((an_or (b2 := true) (an_not (an_tB (ev_isi rfl (.inl dv) (kb_tuple d)))) fun e => by rw [ht'] at e; cases e).to (by rw [ht']; rfl)) (fun _ => sr_ret (ev_bl.to ?_)) fun e => by cases e
    cases d <;> first | rfl | (cases ht'; done)

def funP (m : Int) (fs : List PyData) : PyData → Bool
  | .tuple [.int k, f] => funD f m (cutD fs none (some k))
  | _ => false
def funsD (d : PyData) (many : Int) : Bool := match d with
  | .tuple fs => decide (fs.length ≤ 8) && (enumD fs).all (funP many fs)
  | _ => false
/-- all but the last are triples -/
def triHead : PyData → Prop
  | .tuple fs => fs.length ≤ 8 → ∀ f ∈ fs.dropLast, isTri f = true
  | _ => True
theorem cut_to {xs : List PyData} {k : Nat} (h : k ≤ xs.length) : cutD xs none (some (k : Int)) = xs.take k := by
  unfold L2.cutD
  rw [HT.sIx_nat, HT.sIx_none, Nat.min_eq_left h, List.drop_zero, Nat.sub_zero]
theorem take_dropLast {α : Type} {xs : List α} {k : Nat} (h : k < xs.length) : ∀ x ∈ xs.take k, x ∈ xs.dropLast := fun x hx => by
  rw [List.dropLast_eq_take]
  exact (List.take_subset_take_left xs (by omega)) hx
def N_are_functions : List Str := ["value", "many", "at", "each"]
theorem sc_are_functions : FnScope N_are_functions ["value", "many"] (defScope s_are_functions) := ⟨rfl, rfl, rfl, by decide +kernel, rfl, by decide +kernel, by decide +kernel⟩
abbrev sp_are_functions (K : PySem.W.Frag) : Sp := spD K (fun ds => ∃ (d : PyData) (m : Int), ds = [d, .int m] ∧ smallD d = true ∧ d.depth ≤ 62 ∧ triHead d) (fun ds => match ds with | [d, .int m] => .bool (funsD d m) | _ => .none)
theorem ok_are_functions (A0 : At K mg "are_functions" s_are_functions ["value", "many"]) (T : Tx w K mg) (D_is_function : Df P w K mg base "is_function" 6 ["value", "many", "functions"] (sp_is_function K)) : Df P w K mg base "are_functions" 7 ["value", "many"] (sp_are_functions K) := by
  obtain ⟨t_MOST_FUNCTIONS, g_MOST_FUNCTIONS⟩ := T.c_MOST_FUNCTIONS
  have r_MOST_FUNCTIONS : RelV (.int 8) (.int 8 t_MOST_FUNCTIONS) := ⟨_, rfl⟩
  obtain ⟨f_is_function, fd_is_function, g_is_function, kp_is_function, b_is_function, G_is_function⟩ := D_is_function
  refine df_pure A0 sc_are_functions ?_ (fun f cdv A outer s H E hr => ?_)
  · rintro ds hp; first | (obtain ⟨_, _, _, _, _, rfl, _⟩ := hp; rfl) | (obtain ⟨_, _, _, _, rfl, _⟩ := hp; rfl) | (obtain ⟨_, _, _, rfl, _⟩ := hp; rfl) | (obtain ⟨_, rfl⟩ := hp; rfl) | (obtain ⟨_, _, rfl⟩ := hp; rfl) | (obtain ⟨_, _, _, rfl⟩ := hp; rfl) | (obtain ⟨_, _, _, _, rfl⟩ := hp; rfl) | (obtain ⟨_, _, _, _, rfl, _⟩ := hp; rfl) | (obtain ⟨_, _, _, rfl, _⟩ := hp; rfl) | (obtain ⟨_, _, rfl, _⟩ := hp; rfl) | (obtain ⟨_, rfl, _⟩ := hp; rfl)
  have nd := sc_are_functions.nd
  refine ⟨_, (pss_cons (ps_if (PW.pt (pw_or (pt_not (pt_val (pe_callB (r := rIsi K) call_isi (by rfl) T.b_isinstance boot_isinstance (pa_cons (pv 0) (pa_cons (pe_bltn (v := .ty "tuple") (by rfl) T.b_tuple boot_tuple rfl) pa_nil))))) (pw_or1 (pt_cmpR op_gt (pe_callB (r := fun xs H Q => ∃ x n, xs = [x] ∧ LenV K x H n ∧ Q (.int n) H) call_len (by rfl) T.b_len PySem.boot_len (pa_cons (pv 0) pa_nil)) (pe_glob (by rfl) g_MOST_FUNCTIONS r_MOST_FUNCTIONS) (nomark _))))) (pss_one (ps_ret pe_bl)) pss_nil)
    (pss_one (ps_ret (pe_callB (r := rAll K) (cr_all rfl) (by rfl) T.b_all (by decide +kernel) (pa_cons (pe_lc (own := [("at", 2), ("each", 3)]) rfl nd (pi_enumT (by rfl) T.b_enumerate (pa_cons (pv 0) pa_nil)) (blkOk_by (N := N_are_functions) (sc := defScope s_are_functions) (by decide +kernel)) (fun _ _ _ _ _ => (pg_tupK (n := 2) K rfl rfl (pgs_cons (pg_name (i := 2) nd rfl (Or.inl rfl)) (pgs_cons (pg_name (i := 3) nd rfl (Or.inl rfl)) pgs_nil)))) (fun _ _ _ _ _ => pts_nil) (fun _ _ _ _ _ => (pe_call G_is_function (hr.mono (by decide)) (by rfl) g_is_function kp_is_function b_is_function .nil pass0 (pa_cons (pv 3) (pa_cons (pv 1) (pa_cons (pe_sliceT K rfl (pv 0) po_none (po_some (pv 2))) pa_nil)))))) pa_nil))))), fun Z G vs ds hv hp => ?_⟩
  obtain ⟨d, m, rfl, hd, hdp, hth⟩ := hp
  obtain ⟨v, u, rfl, dv, du⟩ := all2 hv
  show SR K Z _ _ G (.bool (funsD d m))
  by_cases ht : isTupD d = true
  · obtain ⟨xs, rfl⟩ := is_tup ht
    obtain ⟨hl, hx⟩ := small_tuple hd
    have hdx : ∀ x ∈ xs, x.depth ≤ 61 := depth_tuple.mp hdp
    have hlen : Ev K Z (tCB (fun xs H Q => ∃ x n, xs = [x] ∧ LenV K x H n ∧ Q (.int n) H) (tCons (tVar 0) tNil)) (start N_are_functions [v, u]) G (.int xs.length) := ev_cb (eva_cons (ev_var rfl dv) eva_nil) rc_lenT
    have h8 : decide (((xs.length : Nat) : Int) > 8) = !decide (xs.length ≤ 8) := by
      rw [← decide_not]; exact decide_eq_decide.mpr (by omega)
    refine sr_if (b := !decide (xs.length ≤ 8)) ((an_or (an_not (an_tB (ev_isi rfl (.inl dv) (kb_tuple _)))) fun _ => an_test (ev_op hlen ev_int (rd_i0 fun _ => .bl _))).to (by rw [h8]; rfl)) (fun e => sr_ret (ev_bl.to ?_)) fun e => sr_ret ?_
    · rw [Bool.not_eq_true'] at e
      show PyData.bool false = .bool (decide (xs.length ≤ 8) && _)
      rw [e]; rfl
    · rw [Bool.not_eq_false'] at e
      show Ev K Z _ _ G (.bool (decide (xs.length ≤ 8) && (enumD xs).all (funP m xs)))
      rw [e, Bool.true_and]
      have h8' : xs.length ≤ 8 := of_decide_eq_true e
      refine ev_allc (p := funP m xs) (evi_enumT (eva_cons (ev_var rfl dv) eva_nil)) (by rw [enumD_length]; exact line1000 hl) fun Z' i d G' hi s => ?_
      obtain ⟨f, rfl, hf⟩ := enum_mem hi
      have hil := (List.getElem?_eq_some_iff.mp hf).1
      refine eg_two fun v1 v2 G2 s2 d1 d2 => ⟨rfl, ?_⟩
      have ss := s.trans s2
      have hm := List.mem_of_getElem? hf
      refine (ev_call (eva_cons (ev_var rfl d2) (eva_cons (ev_var rfl (Dx.same ss _ _ du)) (eva_cons (ev_slT (ev_var rfl (Dx.same ss _ _ dv)) evo_none (evo_some (ev_var rfl d1) (by omega))) eva_nil))) ⟨f, m, _, cutD xs none (some (i : Int)), rfl, hx f hm, hdx f hm, .inr rfl, ?_, fun g hg => ?_⟩)
      · rw [cut_to (by omega)]
        exact Nat.le_trans (List.length_take_le _ _) (by omega)
      · have hg2 := cut_mem g hg
        rw [cut_to (by omega)] at hg
        exact ⟨hth h8' g (take_dropLast hil g hg), hx g hg2⟩
  · have ht' : isTupD d = false := by simpa using ht
    refine sr_if (b := true) ((an_or (b2 := true) (an_not (an_tB (ev_isi rfl (.inl dv) (kb_tuple d)))) fun e => by rw [ht'] at e; cases e).to (by rw [ht']; rfl)) (fun _ => sr_ret (ev_bl.to ?_)) fun e => by cases e
    cases d <;> first | rfl | (cases ht'; done)
end
end K81
namespace K81
open PySem PySem.Spec PyProof.Rows L2

section
variable {P : Program} {w : World} {K : PySem.W.Frag} {mg : Str → Option Value} {base : Heap}
theorem sc_BadNumber : FnScope ["self", "part"] ["self", "part"] (defScope s_BadNumber___init__) := ⟨rfl, rfl, rfl, by decide +kernel, rfl, by decide +kernel, by decide +kernel⟩
theorem ok_BadNumber {C f : Addr} {fd : FuncData} (F : Fun K "__init__" "BadNumber.__init__" s_BadNumber___init__ f fd) (T : OexC K C) (hno : PySem.W.findIn K (.ref C) "part" = some none) : FnOk P w K mg base CX0 1 f fd ["self", "part"] (spPart C) := by
  refine F.ok sc_BadNumber (fun vs H Q E h => ?_) (fun cdv A outer s H vs Q E hr h => ?_)
  · obtain ⟨a, p, rfl, _⟩ := h; rfl
  · obtain ⟨a, p, rfl, ha, q⟩ := h
    exact ⟨_, pss_one (ps_ost (pv 0) (pv 1)), sem_part T hno ha q⟩
theorem sc_BadCode : FnScope ["self", "part"] ["self", "part"] (defScope s_BadCode___init__) := ⟨rfl, rfl, rfl, by decide +kernel, rfl, by decide +kernel, by decide +kernel⟩
theorem ok_BadCode {C f : Addr} {fd : FuncData} (F : Fun K "__init__" "BadCode.__init__" s_BadCode___init__ f fd) (T : OexC K C) (hno : PySem.W.findIn K (.ref C) "part" = some none) : FnOk P w K mg base CX0 1 f fd ["self", "part"] (spPart C) := by
  refine F.ok sc_BadCode (fun vs H Q E h => ?_) (fun cdv A outer s H vs Q E hr h => ?_)
  · obtain ⟨a, p, rfl, _⟩ := h; rfl
  · obtain ⟨a, p, rfl, ha, q⟩ := h
    exact ⟨_, pss_one (ps_ost (pv 0) (pv 1)), sem_part T hno ha q⟩

def numBad (C : Addr) (d : PyData) (p : Str) (lo hi : Int) : Option (Addr × Str) := if (!withinD d (.int lo) (.int hi)) = true then some (C, p) else none
def N_need_number : List Str := ["value", "part", "least", "most"]
theorem sc_need_number : FnScope N_need_number ["value", "part", "least", "most"] (defScope s_need_number) := ⟨rfl, rfl, rfl, by decide +kernel, rfl, by decide +kernel, by decide +kernel⟩
abbrev sp_need_number (K : PySem.W.Frag) (CN : Addr) : Sp := spX K (fun ds => ∃ (d : PyData) (p : Str) (lo hi : Int), ds = [d, .str p, .int lo, .int hi]) (fun ds => match ds with | [d, .str p, .int lo, .int hi] => numBad CN d p lo hi | _ => none)
theorem ok_need_number {CN : Addr} (A0 : At K mg "need_number" s_need_number ["value", "part", "least", "most"]) (T : Tx w K mg) (D_is_within : Df P w K mg base "is_within" 2 ["value", "least", "most"] (sp_is_within K)) (E_BadNumber : ExK P w K mg base "BadNumber" CN) : DfX P w K mg base "need_number" 3 ["value", "part", "least", "most"] (sp_need_number K CN) := by
  obtain ⟨f_is_within, fd_is_within, g_is_within, kp_is_within, b_is_within, G_is_within⟩ := D_is_within
  obtain ⟨gE_BadNumber, oex_BadNumber, ⟨fI_BadNumber, fdI_BadNumber, iC_BadNumber, tI_BadNumber, bI_BadNumber, FI_BadNumber⟩, _⟩ := E_BadNumber
  refine df_x A0 sc_need_number ?_ (fun f cdv A outer s H E hr => ?_)
  · rintro ds hp; first | (obtain ⟨_, _, _, _, rfl⟩ := hp; rfl) | (obtain ⟨_, rfl⟩ := hp; rfl)
  have nd := sc_need_number.nd
  refine ⟨_, (pss_one (ps_if (pt_not (pt_val (pe_call G_is_within (hr.mono (by decide)) (by rfl) g_is_within kp_is_within b_is_within .nil pass0 (pa_cons (pv 0) (pa_cons (pv 2) (pa_cons (pv 3) pa_nil)))))) (pss_one (ps_raise rfl (takes_of rfl rfl rfl rfl) (pmk_oex oex_BadNumber iC_BadNumber tI_BadNumber FI_BadNumber (hr.mono (by decide)) bI_BadNumber .nil pass0 (by rfl) gE_BadNumber (pa_cons (pv 1) pa_nil)))) pss_nil)), fun Z G vs ds hv hp => ?_⟩
  obtain ⟨d, p, lo, hi, rfl⟩ := hp
  obtain ⟨v, u, y, z, rfl, dv, du, dy, dz⟩ := all4 hv
  exact xs_raise (an_not (an_tB (ev_call (eva_cons (ev_var rfl dv) (eva_cons (ev_var rfl dy) (eva_cons (ev_var rfl dz) eva_nil))) ⟨d, some lo, some hi, rfl⟩))) (ev_var rfl du)
def N_need_least : List Str := ["value"]
theorem sc_need_least : FnScope N_need_least ["value"] (defScope s_need_least) := ⟨rfl, rfl, rfl, by decide +kernel, rfl, by decide +kernel, by decide +kernel⟩
abbrev sp_need_least (K : PySem.W.Frag) (CN : Addr) : Sp := spX K (fun ds => ∃ d, ds = [d]) (fun ds => match ds with | [d] => numBad CN d "least" 1 8 | _ => none)
theorem ok_need_least {CN : Addr} (A0 : At K mg "need_least" s_need_least ["value"]) (T : Tx w K mg) (D_need_number : DfX P w K mg base "need_number" 3 ["value", "part", "least", "most"] (sp_need_number K CN)) : DfX P w K mg base "need_least" 4 ["value"] (sp_need_least K CN) := by
  obtain ⟨f_need_number, fd_need_number, g_need_number, kp_need_number, b_need_number, G_need_number⟩ := D_need_number
  refine df_x A0 sc_need_least ?_ (fun f cdv A outer s H E hr => ?_)
  · rintro ds hp; first | (obtain ⟨_, _, _, _, rfl⟩ := hp; rfl) | (obtain ⟨_, rfl⟩ := hp; rfl)
  have nd := sc_need_least.nd
  refine ⟨_, (pss_one (ps_expr (pe_call G_need_number (hr.mono (by decide)) (by rfl) g_need_number kp_need_number b_need_number .nil (passes_call (takes_of rfl rfl rfl rfl) fun _ _ _ _ h => h) (pa_cons (pv 0) (pa_cons pe_str (pa_cons pe_int (pa_cons pe_int pa_nil))))))), fun Z G vs ds hv hp => ?_⟩
  obtain ⟨d, rfl⟩ := hp
  obtain ⟨v, rfl, dv⟩ := all1 hv
  exact xs_call (eva_cons (ev_var rfl dv) (eva_cons ev_str (eva_cons ev_int (eva_cons ev_int eva_nil)))) ⟨d, "least", 1, 8, rfl⟩
end
end K81
namespace K81
open PySem PySem.Spec PyProof.Rows L2

section
variable {P : Program} {w : World} {K : PySem.W.Frag} {mg : Str → Option Value} {base : Heap}
def intOf : PyData → Int
  | .int m => m
  | _ => 0
def itemsOf : PyData → List PyData
  | .tuple xs => xs
  | .list xs => xs
  | _ => []
def tupD (d : PyData) : PyData := .tuple (itemsOf d)
def inBad (CC : Addr) (i : PyData) : Option (Addr × Str) := if (!namesD i) = true then some (CC, "inputs") else none
def fnBad (CC : Addr) (f : PyData) (m : Int) : Option (Addr × Str) := if (!funsD (fixD f) m) = true then some (CC, "functions") else none
def rwBad (CC : Addr) (f w : PyData) (m : Int) : Option (Addr × Str) := if (!rowsD (fixD w) m (itemsOf (fixD f)) true) = true then some (CC, "rows") else none
/-- what Code(..) raises -/
def codeBad (CN CC : Addr) (l r g i f w : PyData) : Option (Addr × Str) :=
  (numBad CN l "least" 1 8).or ((numBad CN r "rounds" 0 1000).or ((numBad CN g "registers" 3 16).or ((inBad CC i).or ((fnBad CC f (intOf g)).or (rwBad CC f w (intOf g))))))
theorem fix_not_list {d : PyData} {xs : List PyData} : fixD d ≠ .list xs := by
  cases d <;> simp [fixD]
theorem fix_tuple {d : PyData} {xs : List PyData} (h : fixD d = .tuple xs) : ∃ ys : List PyData, xs = ys.map fixD := by
  cases d with
  | list ys => rw [fixD_list] at h; cases h; exact ⟨ys, rfl⟩
  | tuple ys => rw [fixD_tuple] at h; cases h; exact ⟨ys, rfl⟩
  | _ => cases h
theorem names_is {d : PyData} (h : namesD d = true) : (∃ xs, d = .list xs) ∨ ∃ xs, d = .tuple xs := by
  cases d <;> first | exact .inl ⟨_, rfl⟩ | exact .inr ⟨_, rfl⟩ | (cases h; done)
theorem spell_depth {d : PyData} (h : nameD d = true) : d.depth ≤ 60 := by
  cases d <;> first | (simp [nameD, spellD] at h; done) | (simp [PyData.depth]; done)
theorem fun_tri {e : PyData} {m : Int} {fs : List PyData} (h : funD (fixD e) m fs = true) : isTri (fixD e) = true := by
  unfold funD at h
  split at h
  · rename_i n ps bs he
    obtain ⟨ys, hy⟩ := fix_tuple he
    match ys, hy with
    | [n0, p0, b0], hy =>
      simp only [List.map_cons, List.map_nil, List.cons.injEq, and_true] at hy
      obtain ⟨rfl, rfl, rfl⟩ := hy
      rw [Bool.and_eq_true, Bool.and_eq_true, Bool.and_eq_true] at h
      obtain ⟨⟨⟨h1, h2⟩, _⟩, h3⟩ := h
      rw [he]
      rcases names_is h2 with ⟨xs, e2⟩ | ⟨xs, e2⟩
      · exact absurd e2 fix_not_list
      · rw [e2]
        cases hb : fixD b0 with
        | tuple bl => exact decide_eq_true (spell_depth h1)
        | _ => rw [hb] at h3; cases h3
  · cases h
theorem funs_are {f : PyData} {m : Int} (h : funsD (fixD f) m = true) (hs : smallD f = true) : isFuns (fixD f) (itemsOf (fixD f)) := by
  have hs2 := fixD_small f hs
  cases he : fixD f with
  | tuple fs =>
    rw [he] at h hs2
    obtain ⟨hl, hx⟩ := small_tuple hs2
    have h : (decide (fs.length ≤ 8) && (enumD fs).all (funP m fs)) = true := h
    rw [Bool.and_eq_true] at h
    refine ⟨.inr rfl, hl, fun e hm => ⟨?_, hx e hm⟩⟩
    replace hm : e ∈ fs := hm
    obtain ⟨i, hi, rfl⟩ := List.mem_iff_getElem.mp hm
    have h2 := List.all_eq_true.mp h.2 _ (List.mem_of_getElem? (enumD_get (List.getElem?_eq_getElem hi)))
    obtain ⟨ys, rfl⟩ := fix_tuple he
    have h3 : funD (ys.map fixD)[i] m (cutD (ys.map fixD) none (some (i : Int))) = true := h2
    show isTri (ys.map fixD)[i] = true
    simp only [List.getElem_map] at h3 ⊢
    exact fun_tri h3
  | _ => rw [he] at h; cases h
/-- the class Code -/
structure CodeK (K : PySem.W.Frag) (mg : Str → Option Value) (C : Addr) : Prop where
  g : mg "Code" = some (.ref C)
  cls : Cls K C
  na : ∀ f ∈ (["least", "rounds", "registers", "inputs", "functions", "rows"] : List Str), NoAttr K C f
def codeF (l r g i f w : PyData) : List (Str × PyData) := [("least", l), ("rounds", r), ("registers", g), ("inputs", i), ("functions", f), ("rows", w)]
/-- what Code.__init__ promises -/
def spCode (K : PySem.W.Frag) (C CN CC : Addr) : Sp := fun vs H Q E => ∃ (Z : List Addr) (x dx : Addr) (H0 : Hp) (v1 v2 v3 v4 v5 v6 : V) (l r g i fu ro : PyData), vs = [.ref x, v1, v2, v3, v4, v5, v6] ∧ H0 x = none ∧ H0 dx = none ∧ dx ≠ x ∧
  H = upd (upd H0 dx (.own x)) x (.ins C dx []) ∧ Occ Z H0 ∧ Dx K (hid Z H0) v1 l ∧ Dx K (hid Z H0) v2 r ∧ Dx K (hid Z H0) v3 g ∧ Dq K (hid Z H0) v4 i ∧ Dx K (hid Z H0) v5 fu ∧ Dx K (hid Z H0) v6 ro ∧
  smallQ i ∧ smallD fu = true ∧ fu.depth ≤ 20 ∧ triHead (fixD fu) ∧ smallD ro = true ∧ ro.depth ≤ 20 ∧
  (codeBad CN CC l r g i fu ro = none → ∀ H', Same H0 H' → x ∉ Z → InsD K C (hid Z H') x (codeF l r g (tupD i) (fixD fu) (fixD ro)) → Q .non H') ∧
  ∀ Cx p, codeBad CN CC l r g i fu ro = some (Cx, p) → ∀ d H', Same H0 H' → H' d = some (.xd [("part", .str p)]) → E (.ref Cx) (some d) H'
def N_Code___init__ : List Str := ["self", "least", "rounds", "registers", "inputs", "functions", "rows"]
theorem sc_Code___init__ : FnScope N_Code___init__ ["self", "least", "rounds", "registers", "inputs", "functions", "rows"] (defScope s_Code___init__) := ⟨rfl, rfl, rfl, by decide +kernel, rfl, by decide +kernel, by decide +kernel⟩
theorem ok_Code___init__ {C CN CC : Addr} {fc : Addr} {fdc : FuncData} (F : Fun K "__init__" "Code.__init__" s_Code___init__ fc fdc) (CK : CodeK K mg C) (T : Tx w K mg) (D_need_least : DfX P w K mg base "need_least" 4 ["value"] (sp_need_least K CN)) (D_need_number : DfX P w K mg base "need_number" 3 ["value", "part", "least", "most"] (sp_need_number K CN)) (D_are_names : Df P w K mg base "are_names" 3 ["value"] (sp_are_names K)) (D_are_functions : Df P w K mg base "are_functions" 7 ["value", "many"] (sp_are_functions K)) (D_fixed : Df P w K mg base "fixed" 21 ["value"] (sp_fixed 20 K)) (D_are_rows : Df P w K mg base "are_rows" 5 ["rows", "many", "functions", "is_deed"] (sp_are_rows K)) (E_BadCode : ExK P w K mg base "BadCode" CC) : FnOk P w K mg base (L2.CX P w) 23 fc fdc ["self", "least", "rounds", "registers", "inputs", "functions", "rows"] (spCode K C CN CC) := by
  obtain ⟨t_MOST_ROUNDS, g_MOST_ROUNDS⟩ := T.c_MOST_ROUNDS
  have r_MOST_ROUNDS : RelV (.int 1000) (.int 1000 t_MOST_ROUNDS) := ⟨_, rfl⟩
  obtain ⟨t_MOST_REGISTERS, g_MOST_REGISTERS⟩ := T.c_MOST_REGISTERS
  have r_MOST_REGISTERS : RelV (.int 16) (.int 16 t_MOST_REGISTERS) := ⟨_, rfl⟩
  obtain ⟨t_LEAST_REGISTERS, g_LEAST_REGISTERS⟩ := T.c_LEAST_REGISTERS
  have r_LEAST_REGISTERS : RelV (.int 3) (.int 3 t_LEAST_REGISTERS) := ⟨_, rfl⟩
  obtain ⟨f_need_least, fd_need_least, g_need_least, kp_need_least, b_need_least, G_need_least⟩ := D_need_least
  obtain ⟨f_need_number, fd_need_number, g_need_number, kp_need_number, b_need_number, G_need_number⟩ := D_need_number
  obtain ⟨f_are_names, fd_are_names, g_are_names, kp_are_names, b_are_names, G_are_names⟩ := D_are_names
  obtain ⟨f_are_functions, fd_are_functions, g_are_functions, kp_are_functions, b_are_functions, G_are_functions⟩ := D_are_functions
  obtain ⟨f_fixed, fd_fixed, g_fixed, kp_fixed, b_fixed, G_fixed⟩ := D_fixed
  obtain ⟨f_are_rows, fd_are_rows, g_are_rows, kp_are_rows, b_are_rows, G_are_rows⟩ := D_are_rows
  obtain ⟨gE_BadCode, oex_BadCode, ⟨fI_BadCode, fdI_BadCode, iC_BadCode, tI_BadCode, bI_BadCode, FI_BadCode⟩, _⟩ := E_BadCode
  refine F.okX sc_Code___init__ (fun vs H Q E h => ?_) (fun cdv A outer s H vs Q E hr h => ?_)
  · obtain ⟨Z, x, dx, H0, v1, v2, v3, v4, v5, v6, l, r, g, i, fu, ro, rfl, _⟩ := h; rfl
  have nd := sc_Code___init__.nd
  refine ⟨_, (pss_cons (ps_expr (pe_call G_need_least (hr.mono (by decide)) (by rfl) g_need_least kp_need_least b_need_least .nil (passes_call (takes_of rfl rfl rfl rfl) fun _ _ _ _ h => h) (pa_cons (pv 1) pa_nil)))
    (pss_cons (ps_expr (pe_call G_need_number (hr.mono (by decide)) (by rfl) g_need_number kp_need_number b_need_number .nil (passes_call (takes_of rfl rfl rfl rfl) fun _ _ _ _ h => h) (pa_cons (pv 2) (pa_cons pe_str (pa_cons pe_int (pa_cons (pe_glob (by rfl) g_MOST_ROUNDS r_MOST_ROUNDS) pa_nil))))))
    (pss_cons (ps_expr (pe_call G_need_number (hr.mono (by decide)) (by rfl) g_need_number kp_need_number b_need_number .nil (passes_call (takes_of rfl rfl rfl rfl) fun _ _ _ _ h => h) (pa_cons (pv 3) (pa_cons pe_str (pa_cons (pe_glob (by rfl) g_LEAST_REGISTERS r_LEAST_REGISTERS) (pa_cons (pe_glob (by rfl) g_MOST_REGISTERS r_MOST_REGISTERS) pa_nil))))))
    (pss_cons (ps_if (pt_not (pt_val (pe_call G_are_names (hr.mono (by decide)) (by rfl) g_are_names kp_are_names b_are_names .nil pass0 (pa_cons (pv 4) pa_nil)))) (pss_one (ps_raise rfl (takes_of rfl rfl rfl rfl) (pmk_oex oex_BadCode iC_BadCode tI_BadCode FI_BadCode (hr.mono (by decide)) bI_BadCode .nil pass0 (by rfl) gE_BadCode (pa_cons pe_str pa_nil)))) pss_nil)
    (pss_cons (ps_if (pt_not (pt_val (pe_call G_are_functions (hr.mono (by decide)) (by rfl) g_are_functions kp_are_functions b_are_functions .nil pass0 (pa_cons (pe_call G_fixed (hr.mono (by decide)) (by rfl) g_fixed kp_fixed b_fixed .nil pass0 (pa_cons (pv 5) pa_nil)) (pa_cons (pv 3) pa_nil))))) (pss_one (ps_raise rfl (takes_of rfl rfl rfl rfl) (pmk_oex oex_BadCode iC_BadCode tI_BadCode FI_BadCode (hr.mono (by decide)) bI_BadCode .nil pass0 (by rfl) gE_BadCode (pa_cons pe_str pa_nil)))) pss_nil)
    (pss_cons (ps_if (pt_not (pt_val (pe_call G_are_rows (hr.mono (by decide)) (by rfl) g_are_rows kp_are_rows b_are_rows .nil pass0 (pa_cons (pe_call G_fixed (hr.mono (by decide)) (by rfl) g_fixed kp_fixed b_fixed .nil pass0 (pa_cons (pv 6) pa_nil)) (pa_cons (pv 3) (pa_cons (pe_call G_fixed (hr.mono (by decide)) (by rfl) g_fixed kp_fixed b_fixed .nil pass0 (pa_cons (pv 5) pa_nil)) (pa_cons pe_bl pa_nil))))))) (pss_one (ps_raise rfl (takes_of rfl rfl rfl rfl) (pmk_oex oex_BadCode iC_BadCode tI_BadCode FI_BadCode (hr.mono (by decide)) bI_BadCode .nil pass0 (by rfl) gE_BadCode (pa_cons pe_str pa_nil)))) pss_nil)
    (pss_cons (ps_fld (pv 0) (pv 1) rfl)
    (pss_cons (ps_fld (pv 0) (pv 2) rfl)
    (pss_cons (ps_fld (pv 0) (pv 3) rfl)
    (pss_cons (ps_fld (pv 0) (pe_callTy (r := fun xs H Q => ∃ p ys, xs = [.ref p] ∧ ((SqL K H p ys ∧ ∀ l, H l = none → Q (.ref l) (upd H l (.tup ys))) ∨ (SqT K H p ys ∧ Q (.ref p) H))) call_tuple_of (by rfl) T.b_tuple boot_tuple (pa_cons (pv 4) pa_nil)) rfl)
    (pss_cons (ps_fld (pv 0) (pe_call G_fixed (hr.mono (by decide)) (by rfl) g_fixed kp_fixed b_fixed .nil pass0 (pa_cons (pv 5) pa_nil)) rfl)
    (pss_one (ps_fld (pv 0) (pe_call G_fixed (hr.mono (by decide)) (by rfl) g_fixed kp_fixed b_fixed .nil pass0 (pa_cons (pv 6) pa_nil)) rfl))))))))))))), ?_⟩
  obtain ⟨Z, x, dx, H0, v1, v2, v3, v4, v5, v6, l, r, g, i, fu, ro, rfl, hx0, hd0, hne, rfl, oc, dl, dr, dg, di, df, dw, si, sf, pf, tf, sw, pw, q1, q2⟩ := h
  have hxZ : x ∉ Z := oc.new hx0
  have hdZ : dx ∉ Z := oc.new hd0
  have sH : Same H0 (upd (upd H0 dx (.own x)) x (.ins C dx [])) := fun b u e => by
    rw [upd_ne (ne_of_none e hx0), upd_ne (ne_of_none e hd0)]; exact e
  have sG : Same (hid Z H0) (hid (x :: Z) (upd (upd H0 dx (.own x)) x (.ins C dx []))) := fun b u e => by
    obtain ⟨e1, e2⟩ := hid_some e
    have hb : b ∉ x :: Z := fun z => (List.mem_cons.mp z).elim (ne_of_none e2 hx0) e1
    rw [hid_out hb]; exact sH _ _ e2
  have oZ : Occ (x :: Z) (upd (upd H0 dx (.own x)) x (.ins C dx [])) := fun z hz => by
    rcases List.mem_cons.mp hz with e | e
    · rw [e, upd_same]; simp
    · intro z0
      cases qz : H0 z with
      | none => exact oc z e qz
      | some u => rw [sH _ _ qz] at z0; cases z0
  replace dl := Dx.same sG _ _ dl
  replace dr := Dx.same sG _ _ dr
  replace dg := Dx.same sG _ _ dg
  replace di := di.same sG
  replace df := Dx.same sG _ _ df
  replace dw := Dx.same sG _ _ dw
  generalize hG : hid (x :: Z) (upd (upd H0 dx (.own x)) x (.ins C dx [])) = G at dl dr dg di df dw sG
  have eF : ∀ {Z' : List Addr}, Ev K Z' (tCall (sp_fixed 20 K) [] E0 (tCons (tVar 5) tNil)) (start N_Code___init__ [.ref x, v1, v2, v3, v4, v5, v6]) G (fixD fu) := fun {Z'} => ev_call (eva_cons (ev_var rfl df) eva_nil) ⟨fu, rfl, sf, pf⟩
  have eW : ∀ {Z' : List Addr}, Ev K Z' (tCall (sp_fixed 20 K) [] E0 (tCons (tVar 6) tNil)) (start N_Code___init__ [.ref x, v1, v2, v3, v4, v5, v6]) G (fixD ro) := fun {Z'} => ev_call (eva_cons (ev_var rfl dw) eva_nil) ⟨ro, rfl, sw, pw⟩
  have hg : numBad CN g "registers" 3 16 = none → g = .int (intOf g) := fun e => by
    unfold numBad at e
    cases g <;> first | rfl | (cases e; done)
  have hfu : fnBad CC fu (intOf g) = none → isFuns (fixD fu) (itemsOf (fixD fu)) := fun e => by
    unfold fnBad at e
    refine funs_are (m := intOf g) ?_ sf
    cases q : funsD (fixD fu) (intOf g) with
    | true => rfl
    | false => rw [q] at e; cases e
  have hin : inBad CC i = none → namesD i = true := fun e => by
    unfold inBad at e
    cases q : namesD i with
    | true => rfl
    | false => rw [q] at e; cases e
  have sff := fixD_small fu sf
  have pff : (fixD fu).depth ≤ 20 := by rw [fixD_depth]; exact pf
  have sfw := fixD_small ro sw
  have pfw : (fixD ro).depth ≤ 20 := by rw [fixD_depth]; exact pw
  refine (xc_seq (xs_call (eva_cons (ev_var (i := 1) rfl dl) eva_nil) ⟨l, rfl⟩) fun _ => xc_seq (xs_call (eva_cons (ev_var (i := 2) rfl dr) (eva_cons ev_str (eva_cons ev_int (eva_cons ev_int eva_nil)))) ⟨r, "rounds", 0, 1000, rfl⟩) fun _ =>
    xc_seq (xs_call (eva_cons (ev_var (i := 3) rfl dg) (eva_cons ev_str (eva_cons ev_int (eva_cons ev_int eva_nil)))) ⟨g, "registers", 3, 16, rfl⟩) fun e3 =>
    xc_seq (xs_raise (K := K) (b := !namesD i) (C := CC) (an_not (an_tB (ev_callQv (i := 4) (f := fun d => .bool (namesD d)) (spq := fun K P f => spQ K P f) rfl di si fun vs H Q E Z v d a b c e h => ⟨Z, v, d, a, b, c, e, h⟩))) ev_str) fun e4 =>
    xc_seq (xs_raise (K := K) (b := !funsD (fixD fu) (intOf g)) (C := CC) (an_not (an_tB (ev_call (eva_cons eF (eva_cons (ev_var (i := 3) (d := .int (intOf g)) rfl (by rw [← hg e3]; exact dg)) eva_nil)) ⟨_, _, rfl, sff, by omega, tf⟩))) ev_str) fun e5 =>
    xc_end (xs_raise (K := K) (b := !rowsD (fixD ro) (intOf g) (itemsOf (fixD fu)) true) (C := CC) (an_not (an_tB ((ev_call (eva_cons eW (eva_cons (ev_var (i := 3) (d := .int (intOf g)) rfl (by rw [← hg e3]; exact dg)) (eva_cons eF (eva_cons ev_bl eva_nil)))) ⟨_, _, _, _, true, rfl, sfw, by omega, hfu e5⟩).to (by rcases (hfu e5).1 with q | q <;> rw [q] <;> rfl)))) ev_str)) _ (by rw [hG]; exact Same.refl _) oZ _ (fun hn H2 s2 => ?_) (fun Cx p he d H2 s2 e => q2 Cx p he d H2 (sH.trans s2) e)
  have hni : namesD i = true := by
    refine hin ?_
    unfold codeBad at hn
    rw [Option.or_eq_none_iff, Option.or_eq_none_iff, Option.or_eq_none_iff, Option.or_eq_none_iff] at hn
    exact hn.2.2.2.1
  have dpi : Dx K G v4 i := di.elim id fun h => by rw [h.1] at hni; cases hni
  have eI : Ev K (x :: Z) (tCB (fun xs H Q => ∃ p ys, xs = [.ref p] ∧ ((SqL K H p ys ∧ ∀ l, H l = none → Q (.ref l) (upd H l (.tup ys))) ∨ (SqT K H p ys ∧ Q (.ref p) H))) (tCons (tVar 4) tNil)) (start N_Code___init__ [.ref x, v1, v2, v3, v4, v5, v6]) G (tupD i) := by
    rcases names_is hni with ⟨xs, rfl⟩ | ⟨xs, rfl⟩
    · exact ev_cb (eva_cons (ev_var rfl dpi) eva_nil) rc_tupL
    · exact ev_cb (eva_cons (ev_var rfl dpi) eva_nil) rc_tupT
  have M0 : Mid K Z G H0 x C dx [] H2 := ⟨⟨[], s2 _ _ upd_same, .nil⟩, by rw [← hG]; exact same_hid s2, oZ.same s2, sH.trans s2⟩
  have na := CK.na
  refine mid_fld CK.cls (na "least" (by simp)) rfl hx0 (ev_var (i := 1) rfl dl) M0 (by simp) rfl fun H3 M3 => ?_
  refine mid_fld CK.cls (na "rounds" (by simp)) rfl hx0 (ev_var (i := 2) rfl dr) M3 (by simp) rfl fun H4 M4 => ?_
  refine mid_fld CK.cls (na "registers" (by simp)) rfl hx0 (ev_var (i := 3) rfl dg) M4 (by simp) rfl fun H5 M5 => ?_
  refine mid_fld CK.cls (na "inputs" (by simp)) rfl hx0 eI M5 (by simp) rfl fun H6 M6 => ?_
  refine mid_fld CK.cls (na "functions" (by simp)) rfl hx0 eF M6 (by simp) rfl fun H7 M7 => ?_
  refine mid_fld CK.cls (na "rows" (by simp)) rfl hx0 eW M7 (by simp) rfl fun H8 M8 => ?_
  exact q1 hn H8 M8.old hxZ (M8.ins hxZ)
end
end K81
namespace K81
open PySem PySem.Spec PyProof.Rows L2

section
variable {P : Program} {w : World} {K : PySem.W.Frag} {mg : Str → Option Value} {base : Heap}
/-- what == and isinstance ask of the class Code -/
structure CodeE (K : PySem.W.Frag) (C : Addr) : Prop where
  isT : PySem.W.kitOne K (.type "tuple") (.ref C) = some false
  ha : PySem.W.findIn K (.ref C) "__class__" = some (some (.builtin "object.__class__"))
  hn : PySem.W.specialIn K (.builtin "object.__class__") "__get__" = some (some (.builtin "getset_descriptor.__get__"))
  ht : PySem.W.takesIn K (.builtin "object.__class__") = some true
  hm : PySem.W.mroIn K C (.type "object") = some true
theorem code_ty {C x : Addr} {G : Hp} {fd : List (Str × PyData)} (c : Cls K C) (E : CodeE K C) (h : InsD K C G x fd) : TyX K G (.ref x) (.ref C) := by
  obtain ⟨dx, fs, e, _⟩ := h
  exact .base (.ins e c E.ha E.hn E.ht E.hm)
theorem TyX.same {G G' : Hp} {x : Addr} {C : Addr} {fd : List (Str × PyData)} (s : Same G G') (h : InsD K C G x fd) : InsD K C G' x fd := h.same s
theorem ev_isiO {Z : List Addr} {σ : L2.St} {G : Hp} {i : Nat} {v : V} {C : Addr} {t : Value} {b : Bool} (hv : σ[i]? = some (some v)) (hd : ∀ G', Same G G' → TyX K G' v t) (hk : PySem.W.kitOne K t (.ref C) = some b) : Ev K Z (tCB (rIsi K) (tCons (tVar i) (tCons (tC (.ref C)) tNil))) σ G (.bool b) := fun H1 s o Q q =>
  ⟨v, hv, v, .ref C, _, _, b, rfl, .own C, hd H1 (s.trans hid_sub), hk, q _ H1 (Same.refl _) (.bl b)⟩
/-- the data of a code: small -/
structure OkF (l r g i f w : PyData) : Prop where
  l : smallD l = true ∧ l.depth ≤ 40
  r : smallD r = true ∧ r.depth ≤ 40
  g : smallD g = true ∧ g.depth ≤ 40
  i : smallD i = true ∧ i.depth ≤ 40
  f : smallD f = true ∧ f.depth ≤ 40
  w : smallD w = true ∧ w.depth ≤ 40
def eqCode (l r g i f w l2 r2 g2 i2 f2 w2 : PyData) : Bool := if (!PyData.eqv (.tuple [l, r]) (.tuple [l2, r2])) = true then false else if (!PyData.eqv (.tuple [g, i]) (.tuple [g2, i2])) = true then false else PyData.eqv f f2 && PyData.eqv w w2
def spEqC (K : PySem.W.Frag) (C : Addr) : Sp := fun vs H Q _ => ∃ (Z : List Addr) (x : Addr) (y : V) (l r g i f w : PyData), Occ Z H ∧ vs = [.ref x, y] ∧ InsD K C (hid Z H) x (codeF l r g i f w) ∧ OkF l r g i f w ∧
  ((∃ ds, Dx K (hid Z H) y (.tuple ds) ∧ ∀ H', Same H H' → Q (.bl false) H') ∨
    ∃ (z : Addr) (l2 r2 g2 i2 f2 w2 : PyData), y = .ref z ∧ InsD K C (hid Z H) z (codeF l2 r2 g2 i2 f2 w2) ∧ OkF l2 r2 g2 i2 f2 w2 ∧ ∀ H', Same H H' → Q (.bl (eqCode l r g i f w l2 r2 g2 i2 f2 w2)) H')
theorem pair_shaped {a b : PyData} (h1 : smallD a = true ∧ a.depth ≤ 40) (h2 : smallD b = true ∧ b.depth ≤ 40) : SeqAt.shaped (.tuple [a, b]) = true := by
  refine shaped_small (of_small_tuple (by simp) fun x hx => ?_) (Nat.le_trans (depth_tuple (n := 40).mpr fun x hx => ?_) (by decide))
  all_goals
    rcases List.mem_cons.mp hx with rfl | hx
    · first | exact h1.1 | exact h1.2
    · rcases List.mem_cons.mp hx with rfl | hx
      · first | exact h2.1 | exact h2.2
      · cases hx
def N_Code___eq__ : List Str := ["self", "other"]
theorem sc_Code___eq__ : FnScope N_Code___eq__ ["self", "other"] (defScope s_Code___eq__) := ⟨rfl, rfl, rfl, by decide +kernel, rfl, by decide +kernel, by decide +kernel⟩
theorem ok_Code___eq__ {C fc : Addr} {fdc : FuncData} (F : Fun K "__eq__" "Code.__eq__" s_Code___eq__ fc fdc) (CK : CodeK K mg C) (CE : CodeE K C) (T : Tx w K mg) : FnOk P w K mg base CX0 1 fc fdc ["self", "other"] (spEqC K C) := by
  have g_Code := CK.g
  have r_Code : RelV (.ref C) (.ref C) := rfl
  refine F.ok sc_Code___eq__ (fun vs H Q E h => ?_) (fun cdv A outer s H vs Q E hr h => ?_)
  · obtain ⟨Z, x, y, l, r, g, i, fu, ro, _, rfl, _⟩ := h; rfl
  have nd := sc_Code___eq__.nd
  refine ⟨_, (pss_cons (ps_if (PW.pt (pw_or (pt_not (pt_val (pe_callB (r := rIsi K) call_isi (by rfl) T.b_isinstance boot_isinstance (pa_cons (pv 1) (pa_cons (pe_glob (by rfl) g_Code r_Code) pa_nil))))) (pw_or1 (pt_cmpR (r := rNeD K) (op_neD hr.units) (pe_tup (pa_cons (pe_fldK K rfl (pv 0) rfl) (pa_cons (pe_fldK K rfl (pv 0) rfl) pa_nil))) (pe_tup (pa_cons (pe_fldK K rfl (pv 1) rfl) (pa_cons (pe_fldK K rfl (pv 1) rfl) pa_nil))) (nomark _))))) (pss_one (ps_ret pe_bl)) pss_nil)
    (pss_cons (ps_if (pt_cmpR (r := rNeD K) (op_neD hr.units) (pe_tup (pa_cons (pe_fldK K rfl (pv 0) rfl) (pa_cons (pe_fldK K rfl (pv 0) rfl) pa_nil))) (pe_tup (pa_cons (pe_fldK K rfl (pv 1) rfl) (pa_cons (pe_fldK K rfl (pv 1) rfl) pa_nil))) (nomark _)) (pss_one (ps_ret pe_bl)) pss_nil)
    (pss_one (ps_ret (pe_and (pe_cmpR (r := rEqD K) (op_eqD hr.units) (pe_fldK K rfl (pv 0) rfl) (pe_fldK K rfl (pv 1) rfl) (nomark _)) (pe_one (pe_cmpR (r := rEqD K) (op_eqD hr.units) (pe_fldK K rfl (pv 0) rfl) (pe_fldK K rfl (pv 1) rfl) (nomark _)))))))), ?_⟩
  obtain ⟨Z, x, y, l, r, g, i, fu, ro, oc, rfl, hi, ok, h⟩ := h
  have na := CK.na
  have fl : ∀ {j : Nat} {z : Addr} {fd : List (Str × PyData)} {n : Str} {d : PyData} {σ : L2.St}, n ∈ (["least", "rounds", "registers", "inputs", "functions", "rows"] : List Str) → σ[j]? = some (some (.ref z)) → InsD K C (hid Z H) z fd → fd.lookup n = some d → Ev K Z (tFld K (tVar j) n) σ (hid Z H) d := fun hn hv hi hl => ev_fld CK.cls (na _ hn) hv hi hl
  rcases h with ⟨ds, dy, q⟩ | ⟨z, l2, r2, g2, i2, fu2, ro2, rfl, hi2, ok2, q⟩
  · have hty : ∀ G', Same (hid Z H) G' → TyX K G' y (.type "tuple") := fun G' s => (Dx.same s _ _ dy).ty
    exact sr_run (K := K) oc (d := .bool false) (fun v H2 s2 dv => by rw [dv.bl_inv]; exact q H2 s2) <| sr_if (b := true) ((an_or (b2 := true) (an_not (an_tB (ev_isiO (i := 1) rfl hty CE.isT))) fun e => by cases e).to rfl) (fun _ => sr_ret ev_bl) fun e => by cases e
  · have hty : ∀ G', Same (hid Z H) G' → TyX K G' (.ref z) (.ref C) := fun G' s => code_ty CK.cls CE (hi2.same s)
    refine sr_run (K := K) oc (d := .bool (eqCode l r g i fu ro l2 r2 g2 i2 fu2 ro2)) (fun v H2 s2 dv => by rw [dv.bl_inv]; exact q H2 s2) ?_
    · skip
      refine sr_if (b := !PyData.eqv (.tuple [l, r]) (.tuple [l2, r2])) ((an_or (an_not (an_tB (ev_isiO (i := 1) (b := true) rfl hty (by unfold PySem.W.kitOne; simp)))) fun _ => an_test (ev_op (ev_tup (eva_cons (fl (by simp) rfl hi rfl) (eva_cons (fl (by simp) rfl hi rfl) eva_nil)) (line1000 (by simp))) (ev_tup (eva_cons (fl (by simp) rfl hi2 rfl) (eva_cons (fl (by simp) rfl hi2 rfl) eva_nil)) (line1000 (by simp))) (rd_neD (pair_shaped ok.l ok.r) (pair_shaped ok2.l ok2.r)))).to (by rfl)) (fun e => sr_ret (ev_bl.to ?_)) fun e => ?_
      · unfold eqCode; rw [if_pos e]
      unfold eqCode
      rw [if_neg (by rw [e]; exact Bool.false_ne_true)]
      refine sr_if (b := !PyData.eqv (.tuple [g, i]) (.tuple [g2, i2])) (an_test (ev_op (ev_tup (eva_cons (fl (by simp) rfl hi rfl) (eva_cons (fl (by simp) rfl hi rfl) eva_nil)) (line1000 (by simp))) (ev_tup (eva_cons (fl (by simp) rfl hi2 rfl) (eva_cons (fl (by simp) rfl hi2 rfl) eva_nil)) (line1000 (by simp))) (rd_neD (pair_shaped ok.g ok.i) (pair_shaped ok2.g ok2.i)))) (fun e => sr_ret (ev_bl.to (by rw [if_pos e]))) fun e => ?_
      rw [if_neg (by rw [e]; exact Bool.false_ne_true)]
      exact sr_ret (ev_andV (ev_op (fl (by simp) rfl hi rfl) (fl (by simp) rfl hi2 rfl) (rd_eqD (shaped_small ok.f.1 (by have := ok.f.2; omega)) (shaped_small ok2.f.1 (by have := ok2.f.2; omega)))) fun _ => ev_op (fl (by simp) rfl hi rfl) (fl (by simp) rfl hi2 rfl) (rd_eqD (shaped_small ok.w.1 (by have := ok.w.2; omega)) (shaped_small ok2.w.1 (by have := ok2.w.2; omega))))
end
end K81
namespace K81
open PySem PySem.Spec PyProof.Rows L2

section
variable {P : Program} {w : World} {K : PySem.W.Frag} {mg : Str → Option Value} {base : Heap}
def N_draw : List Str := ["_law_pen_here", "_law_many", "_law_rest", "_law_at", "_law_cell", "_law_mixed_here"]
theorem sc_draw : FnScope N_draw ["_law_pen_here", "_law_many"] (defScope s__law_draw) := ⟨rfl, rfl, rfl, by decide +kernel, rfl, by decide +kernel, by decide +kernel⟩
theorem ok_draw (A0 : At K mg "_law_draw" s__law_draw ["_law_pen_here", "_law_many"]) (T : Tx w K mg) : Df P w K mg base "_law_draw" 1 ["_law_pen_here", "_law_many"] (spDraw K) := by
  obtain ⟨f, fd, g, F, b⟩ := A0.ex
  refine ⟨f, fd, g, F.kp, b, F.ok sc_draw (fun vs H Q E h => ?_) (fun cdv A outer s H vs Q E hr h => ?_)⟩
  · obtain ⟨p, n, m, rfl, _⟩ := h; rfl
  have nd := sc_draw.nd
  refine ⟨_, (pss_cons (ps_if (pt_cmpR op_gt (pe_ix (r := rIx K) ix_seq (pv 0) pe_int (fun _ _ => rfl)) pe_int (nomark _)) (pss_cons (ps_set (i := 2) nd rfl (Or.inl rfl) (pe_callTy call_int1 (by rfl) T.b_int boot_int (pa_cons (pe_ix (r := rIx K) ix_seq (pv 0) pe_int (fun _ _ => rfl)) pa_nil)))
    (pss_cons (ps_asg (pe_op op_fdivN (pv 2) (pv 1)) (pg_sub (pv 0) pe_int set_list))
    (pss_one (ps_ret (pe_op op_modN (pe_callTy call_int1 (by rfl) T.b_int boot_int (pa_cons (pv 2) pa_nil)) (pv 1)))))) pss_nil)
    (pss_cons (ps_set (i := 3) nd rfl (Or.inl rfl) (pe_ix (r := rIx K) ix_seq (pv 0) pe_int (fun _ _ => rfl)))
    (pss_cons (ps_asg (pe_op op_add (pv 3) pe_int) (pg_sub (pv 0) pe_int set_list))
    (pss_cons (ps_set (i := 4) nd rfl (Or.inl rfl) (pe_op op_add (pe_op op_mul pe_int (pv 3)) pe_int))
    (pss_cons (ps_if (pt_cmpR (r := rNeD K) (op_neD hr.units) (pe_ix (r := rIx K) ix_seq (pv 0) pe_int (fun _ _ => rfl)) (pe_lst pa_nil) (nomark _)) (pss_one (ps_set (i := 4) nd rfl (Or.inl rfl) (pe_ix (r := rIx K) ix_seq (pe_ix (r := rIx K) ix_seq (pv 0) pe_int (fun _ _ => rfl)) (pe_op op_modN (pe_callTy call_int1 (by rfl) T.b_int boot_int (pa_cons (pv 3) pa_nil)) (pe_callB (r := fun xs H Q => ∃ x n, xs = [x] ∧ LenV K x H n ∧ Q (.int n) H) call_len (by rfl) T.b_len PySem.boot_len (pa_cons (pe_ix (r := rIx K) ix_seq (pv 0) pe_int (fun _ _ => rfl)) pa_nil))) (fun _ _ => rfl)))) pss_nil)
    (pss_cons (ps_if (PW.pt (pw_and (pt_cmpR op_lt (pv 3) (pe_callB (r := fun xs H Q => ∃ x n, xs = [x] ∧ LenV K x H n ∧ Q (.int n) H) call_len (by rfl) T.b_len PySem.boot_len (pa_cons (pe_ix (r := rIx K) ix_seq (pv 0) pe_int (fun _ _ => rfl)) pa_nil)) (nomark _)) (pw_and1 (pt_cmpR op_ge (pe_callB call_abs (by rfl) T.b_abs boot_abs (pa_cons (pv 4) pa_nil)) (pe_op op_pow pe_int pe_int) (nomark _))))) (pss_cons (ps_set (i := 2) nd rfl (Or.inl rfl) (pe_op op_add (pe_op op_mul pe_int (pe_op op_sub (pe_callB call_abs (by rfl) T.b_abs boot_abs (pa_cons (pv 4) pa_nil)) (pe_op op_pow pe_int pe_int))) (pe_callTy call_int1 (by rfl) T.b_int boot_int (pa_cons (pe_cmpR op_lt (pv 4) pe_int (nomark _)) pa_nil))))
    (pss_cons (ps_asg (pe_op op_fdivN (pe_callTy call_int1 (by rfl) T.b_int boot_int (pa_cons (pv 2) pa_nil)) (pv 1)) (pg_sub (pv 0) pe_int set_list))
    (pss_one (ps_ret (pe_op op_modN (pe_callTy call_int1 (by rfl) T.b_int boot_int (pa_cons (pv 2) pa_nil)) (pv 1)))))) pss_nil)
    (pss_cons (ps_set (i := 5) nd rfl (Or.inl rfl) (pe_op op_modN (pe_callTy call_int1 (by rfl) T.b_int boot_int (pa_cons (pe_op op_pow (pe_op op_add (pe_op op_add (pe_op op_modN (pe_callTy call_int1 (by rfl) T.b_int boot_int (pa_cons (pv 4) pa_nil)) pe_int) (pe_op op_mul pe_int (pv 3))) pe_int) pe_int) pa_nil)) pe_int))
    (pss_cons (ps_set (i := 5) nd rfl (Or.inl rfl) (pe_op op_modN (pe_callTy call_int1 (by rfl) T.b_int boot_int (pa_cons (pe_op op_pow (pe_op op_add (pe_op op_add (pe_op op_mul (pv 5) (pe_op op_add (pe_op op_mul pe_int (pv 3)) pe_int)) (pe_op op_mul (pe_op op_mul pe_int (pv 3)) (pv 3))) pe_int) pe_int) pa_nil)) pe_int))
    (pss_one (ps_ret (pe_op op_modN (pe_callTy call_int1 (by rfl) T.b_int boot_int (pa_cons (pe_op op_fdivN (pv 5) pe_int) pa_nil)) (pv 1)))))))))))), ?_⟩
  obtain ⟨p, n, m, rfl, m0, m1, hn, ⟨cells, a, r, Pp, hc, a0, a1, r0⟩, q⟩ := h
  have hlast : ∀ (x : Int), 0 ≤ x.fmod m ∧ x.fmod m < m := fun x => ⟨Int.fmod_nonneg_of_pos _ m0, Int.fmod_lt_of_pos _ m0⟩
  refine if0 (an_test (ev_op (ev_op (ev_var rfl Pp.data) ev_int (rd_ixSL atI_2)) ev_int (rd_i0 fun _ => .bl _))) (fun e H2 s2 => ?_) fun e H2 s2 => ?_
  · replace Pp := Pp.same s2
    refine set0 (K := K) (ev_cb (eva_cons (ev_op (ev_var rfl Pp.data) ev_int (rd_ixSL (d := .int r) atI_2)) eva_nil) rc_int) fun v H3 s3 dv => ?_
    replace Pp := Pp.same s3
    refine pen_set (K := K) (i := 0) (j := 2) rfl Pp (ev_op (ev_var rfl dv) (ev_var rfl (.int m)) (rd_iC ⟨by omega, by omega⟩ fun _ => .int _)) (.inr ⟨rfl, rfl, rfl, rfl⟩) fun H4 s4 P4 => ?_
    rw [dv.int_inv]
    refine ret0 (K := K) (ev_op (ev_cb (eva_cons (ev_var rfl (.int r)) eva_nil) rc_int) (ev_var rfl (.int m)) (rd_iC (by omega) fun _ => .int _)) fun v H5 s5 dv => ?_
    rw [dv.int_inv]
    exact q _ H5 (hlast _).1 (hlast _).2 (((SB.of s2).trans (.of s3)).trans (s4.trans (.of s5))) ⟨cells, a, _, P4.same s5, hc, a0, by omega, Int.fdiv_nonneg r0 (by omega)⟩
  · replace Pp := Pp.same s2
    refine set0 (K := K) (ev_op (ev_var rfl Pp.data) ev_int (rd_ixSL (d := .int a) atI_1)) fun v H3 s3 dv => ?_
    replace Pp := Pp.same s3
    rw [dv.int_inv]
    refine pen_set (K := K) (i := 0) (j := 1) rfl Pp (ev_op (ev_var rfl (.int a)) ev_int (rd_i0 fun _ => .int _)) (.inl ⟨rfl, rfl, rfl, rfl⟩) fun H4 s4 P4 => ?_
    refine set0 (K := K) (ev_op (ev_op ev_int (ev_var rfl (.int a)) (rd_iC (.inl ⟨by decide, by decide⟩) fun _ => .int _)) ev_int (rd_i0 fun _ => .int _)) fun v H5 s5 dv => ?_
    rw [dv.int_inv]
    have P5 := P4.same s5
    have s05 : SB p H H5 := (SB.of (s2.trans s3)).trans (s4.trans (.of s5))
    have hsm : smallD (.list (cells.map PyData.int)) = true := of_small_list (by rw [List.length_map]; omega) fun x hx => by
      obtain ⟨i, _, rfl⟩ := List.mem_map.mp hx; rfl
    have hdp : (PyData.list (cells.map PyData.int)).depth ≤ 1 := depth_list.mpr fun x hx => by
      obtain ⟨i, _, rfl⟩ := List.mem_map.mp hx; exact Nat.le_refl _
    refine if0 (b := !PyData.eqv (.list (cells.map PyData.int)) (.list [])) (an_test (ev_op (ev_op (ev_var rfl P5.data) ev_int (rd_ixSL atI_zero)) (ev_lst eva_nil (by decide +kernel)) (rd_neD (shaped_small hsm (by omega)) (by decide +kernel)))) (fun e H6 s6 => ?_) fun e H6 s6 => ?_
    · replace P5 := P5.same s6
      have hne : 0 < cells.length := by
        cases cells with
        | nil => simp [PyData.eqv, PyData.eqvAll] at e
        | cons _ _ => exact Nat.succ_pos _
      have f1 : 0 ≤ a.fmod cells.length := Int.fmod_nonneg_of_pos _ (by omega)
      have f2 : a.fmod cells.length < cells.length := Int.fmod_lt_of_pos _ (by omega)
      obtain ⟨j, hj⟩ : ∃ j : Nat, a.fmod cells.length = j := ⟨_, (Int.toNat_of_nonneg f1).symm⟩
      have hjl : j < cells.length := by omega
      have hat : atI (cells.map PyData.int) (a.fmod ((cells.map PyData.int).length : Nat)) = some (.int cells[j]) := by
        rw [List.length_map, hj]
        exact atI_nat (by rw [List.getElem?_map, List.getElem?_eq_getElem hjl]; rfl)
      refine set0 (K := K) (ev_op (ev_op (ev_var rfl P5.data) ev_int (rd_ixSL atI_zero)) (ev_op (ev_cb (eva_cons (ev_var rfl (.int a)) eva_nil) rc_int) (ev_cb (eva_cons (ev_op (ev_var rfl P5.data) ev_int (rd_ixSL atI_zero)) eva_nil) rc_lenL) (rd_iC (by rw [List.length_map]; omega) fun _ => .int _)) (rd_ixSL hat)) fun v H7 s7' dv => ?_
      rw [dv.int_inv]
      generalize cells[j] = c
      have P7 := P5.same s7'
      have s7 : SB p H H7 := s05.trans (.of (s6.trans s7'))
      refine if0 (an_and (an_test (ev_op (ev_var rfl (.int a)) (ev_cb (eva_cons (ev_op (ev_var rfl P7.data) ev_int (rd_ixSL atI_zero)) eva_nil) rc_lenL) (rd_i0 fun _ => .bl _))) fun _ => an_test (K := K) (ev_op (ev_cb (eva_cons (ev_var rfl (.int c)) eva_nil) rc_abs) (ev_op ev_int ev_int (rd_iC ⟨by decide, by decide, by decide⟩ fun _ => .int _)) (rd_i0 fun _ => .bl _))) (fun e H8 s8 => ?_) fun e H8 s8 => ?_
      · replace P7 := P7.same s8
        replace s7 := s7.trans (.of s8)
        rw [Bool.and_eq_true, decide_eq_true_eq, decide_eq_true_eq] at e
        have eb := e.2
        refine set0 (K := K) (ev_op (ev_op ev_int (ev_op (ev_cb (eva_cons (ev_var rfl (.int c)) eva_nil) rc_abs) (ev_op ev_int ev_int (rd_iC ⟨by decide, by decide, by decide⟩ fun _ => .int _)) (rd_i0 fun _ => .int _)) (rd_iC (.inl ⟨by decide, by decide⟩) fun _ => .int _)) (ev_cb (eva_cons (ev_op (ev_var rfl (.int c)) ev_int (rd_i0 fun _ => .bl _)) eva_nil) rc_intB) (rd_i0 fun _ => .int _)) fun v H9 s9 dv => ?_
        replace P7 := P7.same s9
        replace s7 := s7.trans (.of s9)
        have nn : 0 ≤ 2 * ((if c < 0 then -c else c) - 10 ^ (18 : Int).toNat) + (if decide (c < 0) = true then 1 else 0) := by
          have h10 : (10 : Int) ^ (18 : Int).toNat = 1000000000000000000 := by decide
          rw [h10] at eb ⊢
          split <;> omega
        generalize 2 * ((if c < 0 then -c else c) - 10 ^ (18 : Int).toNat) + (if decide (c < 0) = true then 1 else 0) = rr at dv nn
        refine pen_set (K := K) (i := 0) (j := 2) rfl P7 (ev_op (ev_cb (eva_cons (ev_var rfl dv) eva_nil) rc_int) (ev_var rfl (.int m)) (rd_iC ⟨by omega, by omega⟩ fun _ => .int _)) (.inr ⟨rfl, rfl, rfl, rfl⟩) fun H10 s10 P10 => ?_
        rw [dv.int_inv]
        refine ret0 (K := K) (ev_op (ev_cb (eva_cons (ev_var rfl (.int rr)) eva_nil) rc_int) (ev_var rfl (.int m)) (rd_iC (by omega) fun _ => .int _)) fun v H11 s11 dv => ?_
        rw [dv.int_inv]
        exact q _ H11 (hlast _).1 (hlast _).2 (s7.trans (s10.trans (.of s11))) ⟨cells, a + 1, _, P10.same s11, hc, by omega, by omega, Int.fdiv_nonneg nn (by omega)⟩
      · replace P7 := P7.same s8
        replace s7 := s7.trans (.of s8)
        have b1 : 0 ≤ c.fmod 2147483497 := Int.fmod_nonneg_of_pos _ (by decide)
        have b2 : c.fmod 2147483497 < 2147483497 := Int.fmod_lt_of_pos _ (by decide)
        refine set0 (K := K) (ev_op (ev_cb (eva_cons (ev_op (ev_op (ev_op (ev_op (ev_cb (eva_cons (ev_var rfl (.int c)) eva_nil) rc_int) ev_int (rd_iC (by decide) fun _ => .int _)) (ev_op ev_int (ev_var rfl (.int a)) (rd_iC (.inl ⟨by decide, by decide⟩) fun _ => .int _)) (rd_i0 fun _ => .int _)) ev_int (rd_i0 fun _ => .int _)) ev_int (rd_iC ⟨by decide, by decide, by omega⟩ fun _ => .int _)) eva_nil) rc_int) ev_int (rd_iC (by decide) fun _ => .int _)) fun v H9 s9 dv => ?_
        replace P7 := P7.same s9
        replace s7 := s7.trans (.of s9)
        have c1 : 0 ≤ ((c.fmod 2147483497 + 31019 * a + 6203) ^ (5 : Int).toNat).fmod 2147483489 := Int.fmod_nonneg_of_pos _ (by decide)
        have c2 : ((c.fmod 2147483497 + 31019 * a + 6203) ^ (5 : Int).toNat).fmod 2147483489 < 2147483489 := Int.fmod_lt_of_pos _ (by decide)
        generalize ((c.fmod 2147483497 + 31019 * a + 6203) ^ (5 : Int).toNat).fmod 2147483489 = x at dv c1 c2
        have g1 : x * (2 * a + 2801) ≤ 2147483489 * 2099953 := Int.mul_le_mul (by omega) (by omega) (by omega) (by decide)
        have g2 : 0 ≤ x * (2 * a + 2801) := Int.mul_nonneg c1 (by omega)
        have g3 : 59023 * a * a ≤ 62000000000 * 1048576 := Int.mul_le_mul (by omega) (by omega) (by omega) (by decide)
        have g4 : 0 ≤ 59023 * a * a := Int.mul_nonneg (by omega) a0
        rw [dv.int_inv]
        refine set0 (K := K) (ev_op (ev_cb (eva_cons (ev_op (ev_op (ev_op (ev_op (ev_var rfl (.int x)) (ev_op (ev_op ev_int (ev_var rfl (.int a)) (rd_iC (.inl ⟨by decide, by decide⟩) fun _ => .int _)) ev_int (rd_i0 fun _ => .int _)) (rd_iC (.inl ⟨by omega, by omega⟩) fun _ => .int _)) (ev_op (ev_op ev_int (ev_var rfl (.int a)) (rd_iC (.inl ⟨by decide, by decide⟩) fun _ => .int _)) (ev_var rfl (.int a)) (rd_iC (.inr ⟨by omega, by omega⟩) fun _ => .int _)) (rd_i0 fun _ => .int _)) ev_int (rd_i0 fun _ => .int _)) ev_int (rd_iC ⟨by decide, by decide, by omega⟩ fun _ => .int _)) eva_nil) rc_int) ev_int (rd_iC (by decide) fun _ => .int _)) fun v H10 s10 dv => ?_
        refine ret0 (K := K) (ev_op (ev_cb (eva_cons (ev_op (ev_var rfl dv) ev_int (rd_iC ⟨by decide, by decide⟩ fun _ => .int _)) eva_nil) rc_int) (ev_var rfl (.int m)) (rd_iC (by omega) fun _ => .int _)) fun v H11 s11 dv => ?_
        rw [dv.int_inv]
        exact q _ H11 (hlast _).1 (hlast _).2 (s7.trans (.of (s10.trans s11))) ⟨cells, a + 1, r, P7.same (s10.trans s11), hc, by omega, by omega, r0⟩
    · generalize 59023 * a + 6203 = c
      have P7 := P5.same s6
      have s7 : SB p H H6 := s05.trans (.of s6)
      refine if0 (an_and (an_test (ev_op (ev_var rfl (.int a)) (ev_cb (eva_cons (ev_op (ev_var rfl P7.data) ev_int (rd_ixSL atI_zero)) eva_nil) rc_lenL) (rd_i0 fun _ => .bl _))) fun _ => an_test (K := K) (ev_op (ev_cb (eva_cons (ev_var rfl (.int c)) eva_nil) rc_abs) (ev_op ev_int ev_int (rd_iC ⟨by decide, by decide, by decide⟩ fun _ => .int _)) (rd_i0 fun _ => .bl _))) (fun e H8 s8 => ?_) fun e H8 s8 => ?_
      · replace P7 := P7.same s8
        replace s7 := s7.trans (.of s8)
        rw [Bool.and_eq_true, decide_eq_true_eq, decide_eq_true_eq] at e
        have eb := e.2
        refine set0 (K := K) (ev_op (ev_op ev_int (ev_op (ev_cb (eva_cons (ev_var rfl (.int c)) eva_nil) rc_abs) (ev_op ev_int ev_int (rd_iC ⟨by decide, by decide, by decide⟩ fun _ => .int _)) (rd_i0 fun _ => .int _)) (rd_iC (.inl ⟨by decide, by decide⟩) fun _ => .int _)) (ev_cb (eva_cons (ev_op (ev_var rfl (.int c)) ev_int (rd_i0 fun _ => .bl _)) eva_nil) rc_intB) (rd_i0 fun _ => .int _)) fun v H9 s9 dv => ?_
        replace P7 := P7.same s9
        replace s7 := s7.trans (.of s9)
        have nn : 0 ≤ 2 * ((if c < 0 then -c else c) - 10 ^ (18 : Int).toNat) + (if decide (c < 0) = true then 1 else 0) := by
          have h10 : (10 : Int) ^ (18 : Int).toNat = 1000000000000000000 := by decide
          rw [h10] at eb ⊢
          split <;> omega
        generalize 2 * ((if c < 0 then -c else c) - 10 ^ (18 : Int).toNat) + (if decide (c < 0) = true then 1 else 0) = rr at dv nn
        refine pen_set (K := K) (i := 0) (j := 2) rfl P7 (ev_op (ev_cb (eva_cons (ev_var rfl dv) eva_nil) rc_int) (ev_var rfl (.int m)) (rd_iC ⟨by omega, by omega⟩ fun _ => .int _)) (.inr ⟨rfl, rfl, rfl, rfl⟩) fun H10 s10 P10 => ?_
        rw [dv.int_inv]
        refine ret0 (K := K) (ev_op (ev_cb (eva_cons (ev_var rfl (.int rr)) eva_nil) rc_int) (ev_var rfl (.int m)) (rd_iC (by omega) fun _ => .int _)) fun v H11 s11 dv => ?_
        rw [dv.int_inv]
        exact q _ H11 (hlast _).1 (hlast _).2 (s7.trans (s10.trans (.of s11))) ⟨cells, a + 1, _, P10.same s11, hc, by omega, by omega, Int.fdiv_nonneg nn (by omega)⟩
      · replace P7 := P7.same s8
        replace s7 := s7.trans (.of s8)
        have b1 : 0 ≤ c.fmod 2147483497 := Int.fmod_nonneg_of_pos _ (by decide)
        have b2 : c.fmod 2147483497 < 2147483497 := Int.fmod_lt_of_pos _ (by decide)
        refine set0 (K := K) (ev_op (ev_cb (eva_cons (ev_op (ev_op (ev_op (ev_op (ev_cb (eva_cons (ev_var rfl (.int c)) eva_nil) rc_int) ev_int (rd_iC (by decide) fun _ => .int _)) (ev_op ev_int (ev_var rfl (.int a)) (rd_iC (.inl ⟨by decide, by decide⟩) fun _ => .int _)) (rd_i0 fun _ => .int _)) ev_int (rd_i0 fun _ => .int _)) ev_int (rd_iC ⟨by decide, by decide, by omega⟩ fun _ => .int _)) eva_nil) rc_int) ev_int (rd_iC (by decide) fun _ => .int _)) fun v H9 s9 dv => ?_
        replace P7 := P7.same s9
        replace s7 := s7.trans (.of s9)
        have c1 : 0 ≤ ((c.fmod 2147483497 + 31019 * a + 6203) ^ (5 : Int).toNat).fmod 2147483489 := Int.fmod_nonneg_of_pos _ (by decide)
        have c2 : ((c.fmod 2147483497 + 31019 * a + 6203) ^ (5 : Int).toNat).fmod 2147483489 < 2147483489 := Int.fmod_lt_of_pos _ (by decide)
        generalize ((c.fmod 2147483497 + 31019 * a + 6203) ^ (5 : Int).toNat).fmod 2147483489 = x at dv c1 c2
        have g1 : x * (2 * a + 2801) ≤ 2147483489 * 2099953 := Int.mul_le_mul (by omega) (by omega) (by omega) (by decide)
        have g2 : 0 ≤ x * (2 * a + 2801) := Int.mul_nonneg c1 (by omega)
        have g3 : 59023 * a * a ≤ 62000000000 * 1048576 := Int.mul_le_mul (by omega) (by omega) (by omega) (by decide)
        have g4 : 0 ≤ 59023 * a * a := Int.mul_nonneg (by omega) a0
        rw [dv.int_inv]
        refine set0 (K := K) (ev_op (ev_cb (eva_cons (ev_op (ev_op (ev_op (ev_op (ev_var rfl (.int x)) (ev_op (ev_op ev_int (ev_var rfl (.int a)) (rd_iC (.inl ⟨by decide, by decide⟩) fun _ => .int _)) ev_int (rd_i0 fun _ => .int _)) (rd_iC (.inl ⟨by omega, by omega⟩) fun _ => .int _)) (ev_op (ev_op ev_int (ev_var rfl (.int a)) (rd_iC (.inl ⟨by decide, by decide⟩) fun _ => .int _)) (ev_var rfl (.int a)) (rd_iC (.inr ⟨by omega, by omega⟩) fun _ => .int _)) (rd_i0 fun _ => .int _)) ev_int (rd_i0 fun _ => .int _)) ev_int (rd_iC ⟨by decide, by decide, by omega⟩ fun _ => .int _)) eva_nil) rc_int) ev_int (rd_iC (by decide) fun _ => .int _)) fun v H10 s10 dv => ?_
        refine ret0 (K := K) (ev_op (ev_cb (eva_cons (ev_op (ev_var rfl dv) ev_int (rd_iC ⟨by decide, by decide⟩ fun _ => .int _)) eva_nil) rc_int) (ev_var rfl (.int m)) (rd_iC (by omega) fun _ => .int _)) fun v H11 s11 dv => ?_
        rw [dv.int_inv]
        exact q _ H11 (hlast _).1 (hlast _).2 (s7.trans (.of (s10.trans s11))) ⟨cells, a + 1, r, P7.same (s10.trans s11), hc, by omega, by omega, r0⟩
end
end K81
namespace K81
open PySem PySem.Spec PyProof.Rows L2

section
variable {P : Program} {w : World} {K : PySem.W.Frag} {mg : Str → Option Value} {base : Heap}
def N_pick : List Str := ["_law_pen_here", "_law_some"]
theorem sc_pick : FnScope N_pick ["_law_pen_here", "_law_some"] (defScope s__law_pick) := ⟨rfl, rfl, rfl, by decide +kernel, rfl, by decide +kernel, by decide +kernel⟩
theorem ok_pick (A0 : At K mg "_law_pick" s__law_pick ["_law_pen_here", "_law_some"]) (T : Tx w K mg) (D__law_draw : Df P w K mg base "_law_draw" 1 ["_law_pen_here", "_law_many"] (spDraw K)) : Df P w K mg base "_law_pick" 2 ["_law_pen_here", "_law_some"] (spPick K) := by
  obtain ⟨f__law_draw, fd__law_draw, g__law_draw, kp__law_draw, b__law_draw, G__law_draw⟩ := D__law_draw
  obtain ⟨f, fd, g, F, b⟩ := A0.ex
  refine ⟨f, fd, g, F.kp, b, F.ok sc_pick (fun vs H Q E h => ?_) (fun cdv A outer s H vs Q E hr h => ?_)⟩
  · obtain ⟨p, a, n, xs, rfl, _⟩ := h; rfl
  have nd := sc_pick.nd
  refine ⟨_, (pss_one (ps_ret (pe_ix (r := rIx K) ix_seq (pv 1) (pe_call G__law_draw (hr.mono (by decide)) (by rfl) g__law_draw kp__law_draw b__law_draw .nil pass0 (pa_cons (pv 0) (pa_cons (pe_callB (r := fun xs H Q => ∃ x n, xs = [x] ∧ LenV K x H n ∧ Q (.int n) H) call_len (by rfl) T.b_len PySem.boot_len (pa_cons (pv 1) pa_nil)) pa_nil))) (fun _ _ => rfl)))), ?_⟩
  obtain ⟨p, a, n, xs, rfl, hs, hne, hl, hn, Pp, q⟩ := h
  have hpos : 0 < xs.length := List.length_pos_iff.mpr hne
  refine ⟨.ref a, rfl, .ref p, rfl, .ref a, rfl, .ref a, xs.length, rfl, .inl ⟨xs, hid_sub.seq hs, rfl⟩, p, n, xs.length, rfl, by omega, by omega, hn, Pp, fun r H2 r0 r1 s2 P2 => ?_⟩
  obtain ⟨j, rfl⟩ : ∃ j : Nat, r = j := ⟨r.toNat, by omega⟩
  have hj : j < xs.length := by omega
  have hat : atI xs (j : Int) = some xs[j] := atI_nat (List.getElem?_eq_getElem hj)
  exact .inl ⟨a, xs, j, xs[j], rfl, rfl, hid_sub.seq ((s2.hid (List.mem_singleton_self _)).seq hs), hat, q _ H2 (List.getElem_mem hj) s2 P2⟩

def plainOk (m : Int) (names calls : List PyData) (d : PyData) : Prop := ∃ r0 r1 r2 r3 : Int, (0 ≤ r0 ∧ r0 < m) ∧ (0 ≤ r1 ∧ r1 < m) ∧ (0 ≤ r2 ∧ r2 < m) ∧ (0 ≤ r3 ∧ r3 < m) ∧
  ((∃ k ∈ ([0, 1, 2, 3, 5, -1, 2147483647, -2147483647] : List Int), d = .tuple [.str "number", .int r0, .int k]) ∨
   (∃ x ∈ names ++ [.str "w9"], d = .tuple [.str "name", .int r0, x]) ∨
   d = .tuple [.str "true", .int r0] ∨ d = .tuple [.str "false", .int r0] ∨ d = .tuple [.str "open"] ∨
   (∃ k ∈ ([0, 1, 999] : List Int), d = .tuple [.str "store", .int k, .int r0]) ∨ d = .tuple [.str "hand", .int r0] ∨
   (∃ k ∈ ([0, 1, 999] : List Int), d = .tuple [.str "load", .int r0, .int k]) ∨ (∃ x ∈ calls, d = .tuple [x, .int r0]) ∨
   (∃ x ∈ (["neg", "flip", "at", "no", "shl 1", "shl 2", "shl 31"] : List Str), d = .tuple [.str x, .int r0, .int r1]) ∨
   d = .tuple [.str "if", .int r0, .int r1, .int r2, .int r3] ∨
   ∃ x ∈ (["add", "sub", "mul", "and", "or", "xor", "eq", "lt", "less", "both", "either"] : List Str), d = .tuple [.str x, .int r0, .int r1, .int r2])
def N__law_plain : List Str := ["_law_pen_here", "_law_many", "_law_names", "_law_calls", "_law_some", "_law_way", "_law_place"]
theorem sc_plain : FnScope N__law_plain ["_law_pen_here", "_law_many", "_law_names", "_law_calls"] (defScope s__law_plain) := ⟨rfl, rfl, rfl, by decide +kernel, rfl, by decide +kernel, by decide +kernel⟩
theorem ok_plain (A0 : At K mg "_law_plain" s__law_plain ["_law_pen_here", "_law_many", "_law_names", "_law_calls"]) (T : Tx w K mg) (D__law_draw : Df P w K mg base "_law_draw" 1 ["_law_pen_here", "_law_many"] (spDraw K)) (D__law_pick : Df P w K mg base "_law_pick" 2 ["_law_pen_here", "_law_some"] (spPick K)) :
    Df P w K mg base "_law_plain" 3 ["_law_pen_here", "_law_many", "_law_names", "_law_calls"] (spI K 8 (fun ds => ∃ (m : Int) (names calls : List PyData), ds = [.int m, .list names, .list calls] ∧ 0 < m ∧ m < 1000 ∧ names.length ≤ 100 ∧ calls.length ≤ 100 ∧ smallD (.list calls) = true ∧ (PyData.list calls).depth ≤ 5) (fun ds d => match ds with | [.int m, .list names, .list calls] => plainOk m names calls d | _ => False)) := by
  obtain ⟨f__law_draw, fd__law_draw, g__law_draw, kp__law_draw, b__law_draw, G__law_draw⟩ := D__law_draw
  obtain ⟨f__law_pick, fd__law_pick, g__law_pick, kp__law_pick, b__law_pick, G__law_pick⟩ := D__law_pick
  refine df_i A0 sc_plain ?_ (fun f cdv A outer s H E hr => ?_)
  · rintro ds ⟨m, names, calls, rfl, _⟩; rfl
  have nd := sc_plain.nd
  refine ⟨_, (pss_cons (ps_par (i := 4) (j := 5) (by rfl) nd rfl rfl (by decide) rfl rfl (pa_cons (pe_lc (own := [("_law_place", 6)]) rfl nd (pi_range1 (by rfl) T.b_range (pa_cons pe_int pa_nil)) (blkOk_by (N := N__law_plain) (sc := defScope s__law_plain) (by decide +kernel)) (fun _ _ _ _ _ => (pg_name (i := 6) nd rfl (Or.inl rfl))) (fun _ _ _ _ _ => pts_nil) (fun _ _ _ _ _ => (pe_call G__law_draw (hr.mono (by decide)) (by rfl) g__law_draw kp__law_draw b__law_draw .nil pass0 (pa_cons (pv 0) (pa_cons (pv 1) pa_nil))))) (pa_cons (pe_call G__law_draw (hr.mono (by decide)) (by rfl) g__law_draw kp__law_draw b__law_draw .nil pass0 (pa_cons (pv 0) (pa_cons pe_int pa_nil))) pa_nil)) (by rfl))
    (pss_cons (ps_if (pt_cmpR op_eq (pv 5) pe_int (nomark _)) (pss_one (ps_ret (pe_tup (pa_cons pe_str (pa_cons (pe_ix (r := rIx K) ix_seq (pv 4) pe_int (fun _ _ => rfl)) (pa_cons (pe_call G__law_pick (hr.mono (by decide)) (by rfl) g__law_pick kp__law_pick b__law_pick .nil pass0 (pa_cons (pv 0) (pa_cons (pe_lst (pa_cons pe_int (pa_cons pe_int (pa_cons pe_int (pa_cons pe_int (pa_cons pe_int (pa_cons (pe_un un_neg pe_int) (pa_cons pe_int (pa_cons (pe_un un_neg pe_int) pa_nil))))))))) pa_nil))) pa_nil)))))) pss_nil)
    (pss_cons (ps_if (pt_cmpR op_eq (pv 5) pe_int (nomark _)) (pss_one (ps_ret (pe_tup (pa_cons pe_str (pa_cons (pe_ix (r := rIx K) ix_seq (pv 4) pe_int (fun _ _ => rfl)) (pa_cons (pe_call G__law_pick (hr.mono (by decide)) (by rfl) g__law_pick kp__law_pick b__law_pick .nil pass0 (pa_cons (pv 0) (pa_cons (pe_op op_cat (pv 2) (pe_lst (pa_cons pe_str pa_nil))) pa_nil))) pa_nil)))))) pss_nil)
    (pss_cons (ps_if (pt_cmpR op_eq (pv 5) pe_int (nomark _)) (pss_one (ps_ret (pe_call G__law_pick (hr.mono (by decide)) (by rfl) g__law_pick kp__law_pick b__law_pick .nil pass0 (pa_cons (pv 0) (pa_cons (pe_lst (pa_cons (pe_tup (pa_cons pe_str (pa_cons (pe_ix (r := rIx K) ix_seq (pv 4) pe_int (fun _ _ => rfl)) pa_nil))) (pa_cons (pe_tup (pa_cons pe_str (pa_cons (pe_ix (r := rIx K) ix_seq (pv 4) pe_int (fun _ _ => rfl)) pa_nil))) (pa_cons (pe_tup (pa_cons pe_str pa_nil)) (pa_cons (pe_tup (pa_cons pe_str (pa_cons (pe_call G__law_pick (hr.mono (by decide)) (by rfl) g__law_pick kp__law_pick b__law_pick .nil pass0 (pa_cons (pv 0) (pa_cons (pe_lst (pa_cons pe_int (pa_cons pe_int (pa_cons pe_int pa_nil)))) pa_nil))) (pa_cons (pe_ix (r := rIx K) ix_seq (pv 4) pe_int (fun _ _ => rfl)) pa_nil)))) pa_nil))))) pa_nil))))) pss_nil)
    (pss_cons (ps_if (pt_cmpR op_eq (pv 5) pe_int (nomark _)) (pss_one (ps_ret (pe_call G__law_pick (hr.mono (by decide)) (by rfl) g__law_pick kp__law_pick b__law_pick .nil pass0 (pa_cons (pv 0) (pa_cons (pe_lst (pa_cons (pe_tup (pa_cons pe_str pa_nil)) (pa_cons (pe_tup (pa_cons pe_str (pa_cons (pe_ix (r := rIx K) ix_seq (pv 4) pe_int (fun _ _ => rfl)) pa_nil))) (pa_cons (pe_tup (pa_cons pe_str (pa_cons (pe_ix (r := rIx K) ix_seq (pv 4) pe_int (fun _ _ => rfl)) (pa_cons (pe_call G__law_pick (hr.mono (by decide)) (by rfl) g__law_pick kp__law_pick b__law_pick .nil pass0 (pa_cons (pv 0) (pa_cons (pe_lst (pa_cons pe_int (pa_cons pe_int (pa_cons pe_int pa_nil)))) pa_nil))) pa_nil)))) (pa_cons (pe_tup (pa_cons pe_str (pa_cons (pe_ix (r := rIx K) ix_seq (pv 4) pe_int (fun _ _ => rfl)) pa_nil))) pa_nil))))) pa_nil))))) pss_nil)
    (pss_cons (ps_if (PW.pt (pw_and (pt_cmpR op_eq (pv 5) pe_int (nomark _)) (pw_and1 (pt_cmpR (r := rNeD K) (op_neD hr.units) (pv 3) (pe_lst pa_nil) (nomark _))))) (pss_one (ps_ret (pe_tup (pa_cons (pe_call G__law_pick (hr.mono (by decide)) (by rfl) g__law_pick kp__law_pick b__law_pick .nil pass0 (pa_cons (pv 0) (pa_cons (pv 3) pa_nil))) (pa_cons (pe_ix (r := rIx K) ix_seq (pv 4) pe_int (fun _ _ => rfl)) pa_nil))))) pss_nil)
    (pss_cons (ps_if (pt_cmpR op_eq (pv 5) pe_int (nomark _)) (pss_one (ps_ret (pe_tup (pa_cons (pe_call G__law_pick (hr.mono (by decide)) (by rfl) g__law_pick kp__law_pick b__law_pick .nil pass0 (pa_cons (pv 0) (pa_cons (pe_lst (pa_cons pe_str (pa_cons pe_str (pa_cons pe_str (pa_cons pe_str (pa_cons pe_str (pa_cons pe_str (pa_cons pe_str pa_nil)))))))) pa_nil))) (pa_cons (pe_ix (r := rIx K) ix_seq (pv 4) pe_int (fun _ _ => rfl)) (pa_cons (pe_ix (r := rIx K) ix_seq (pv 4) pe_int (fun _ _ => rfl)) pa_nil)))))) pss_nil)
    (pss_cons (ps_if (pt_cmpR op_eq (pv 5) pe_int (nomark _)) (pss_one (ps_ret (pe_tup (pa_cons pe_str (pa_cons (pe_ix (r := rIx K) ix_seq (pv 4) pe_int (fun _ _ => rfl)) (pa_cons (pe_ix (r := rIx K) ix_seq (pv 4) pe_int (fun _ _ => rfl)) (pa_cons (pe_ix (r := rIx K) ix_seq (pv 4) pe_int (fun _ _ => rfl)) (pa_cons (pe_ix (r := rIx K) ix_seq (pv 4) pe_int (fun _ _ => rfl)) pa_nil)))))))) pss_nil)
    (pss_one (ps_ret (pe_tup (pa_cons (pe_call G__law_pick (hr.mono (by decide)) (by rfl) g__law_pick kp__law_pick b__law_pick .nil pass0 (pa_cons (pv 0) (pa_cons (pe_lst (pa_cons pe_str (pa_cons pe_str (pa_cons pe_str (pa_cons pe_str (pa_cons pe_str (pa_cons pe_str (pa_cons pe_str (pa_cons pe_str (pa_cons pe_str (pa_cons pe_str (pa_cons pe_str pa_nil)))))))))))) pa_nil))) (pa_cons (pe_ix (r := rIx K) ix_seq (pv 4) pe_int (fun _ _ => rfl)) (pa_cons (pe_ix (r := rIx K) ix_seq (pv 4) pe_int (fun _ _ => rfl)) (pa_cons (pe_ix (r := rIx K) ix_seq (pv 4) pe_int (fun _ _ => rfl)) pa_nil))))))))))))))), fun Z G p n us ds hp hv hP hn => ?_⟩
  obtain ⟨m, names, calls, rfl, m0, m1, hl1, hl2, sc, dc⟩ := hP
  obtain ⟨vm, vn, vc, rfl, dm, dn, dcl⟩ := all3 hv
  show IS K Z p n (n + 8) _ _ G (plainOk m names calls)
  refine is_par hp (ia_cons hp (ie_lc (k := 1) (L := 4) (Re := fun _ _ d => ∃ r : Int, d = .int r ∧ 0 ≤ r ∧ r < m) hp (iw_rngC (m := 4) (eva_cons ev_int eva_nil) (by decide)) (fun items e => by rw [e]; exact ⟨Nat.le_refl _, by decide⟩) fun items Z' i d G' ri hp' hi hiL s => eg_name fun v G2 s2 dv => ⟨rfl, (ie_drawK hp' rfl (ev_var rfl (Dx.same (s.trans s2) _ _ dm)) m0 (by omega) (by omega)).le (by omega)⟩) (ia_cons hp (ie_drawK hp rfl ev_int (by decide) (by decide) (by omega)) ia_nil)) ?_
  rintro ds ⟨d1, ds1, rfl, ⟨l, items, rfl, rfl, hlen, hR⟩, d2, ds2, rfl, ⟨way, rfl, w0, w1⟩, rfl⟩
  refine ⟨.list l, .int way, rfl, fun vS vW G1 s1 dS dW => ?_⟩
  obtain ⟨a0, a1, a2, a3, rfl⟩ : ∃ a b c e, l = [a, b, c, e] := by
    match l, hlen with
    | [a, b, c, e], _ => exact ⟨a, b, c, e, rfl⟩
  obtain ⟨r0, rfl, h0⟩ := hR 0 a0 rfl
  obtain ⟨r1, rfl, h1⟩ := hR 1 a1 rfl
  obtain ⟨r2, rfl, h2⟩ := hR 2 a2 rfl
  obtain ⟨r3, rfl, h3⟩ := hR 3 a3 rfl
  clear hR
  replace dn := Dx.same s1 _ _ dn
  replace dcl := Dx.same s1 _ _ dcl
  have hz2 : ∀ {a b : PyData}, ([a, b] : List PyData).length ≤ 1000 := by intros; simp
  refine is_if hp (an_test (ev_op (ev_var (i := 5) rfl dW) ev_int rd_eqI)) (fun _ => is_ret ((IE.imp (ie_tup hp (ia_cons hp (ie_ev ev_str) (ia_cons hp (ie_ev (ev_op (ev_var (i := 4) rfl dS) ev_int (rd_ixSL (d := .int r0) atI_zero))) (ia_cons hp (ie_pickK hp rfl (ev_lst (eva_cons ev_int (eva_cons ev_int (eva_cons ev_int (eva_cons ev_int (eva_cons ev_int (eva_cons (ev_neg ev_int) (eva_cons ev_int (eva_cons (ev_neg ev_int) eva_nil)))))))) (line1000 (by simp))) (by simp) (by simp) (by omega)) ia_nil))) (by rintro _ ⟨_, _, rfl, _, _, _, rfl, _, _, _, rfl, _, rfl⟩; simp)) ?_).le (by omega))) fun _ => ?_
  · rintro d ⟨_, rfl, _, _, rfl, rfl, _, _, rfl, rfl, x, _, rfl, hx, rfl⟩
    refine ⟨r0, r1, r2, r3, h0, h1, h2, h3, .inl ?_⟩
    simp only [List.mem_cons, List.not_mem_nil, or_false] at hx
    rcases hx with rfl | rfl | rfl | rfl | rfl | rfl | rfl | rfl <;> exact ⟨_, by simp, rfl⟩
  refine is_if hp (an_test (ev_op (ev_var (i := 5) rfl dW) ev_int rd_eqI)) (fun _ => is_ret ((IE.imp (ie_tup hp (ia_cons hp (ie_ev ev_str) (ia_cons hp (ie_ev (ev_op (ev_var (i := 4) rfl dS) ev_int (rd_ixSL (d := .int r0) atI_zero))) (ia_cons hp (ie_pickK hp rfl (ev_op (ev_var (i := 2) rfl dn) (ev_lst (eva_cons ev_str eva_nil) (line1000 (by simp))) (rd_cat (by simp; omega))) (by simp) (by simp; omega) (by omega)) ia_nil))) (by rintro _ ⟨_, _, rfl, _, _, _, rfl, _, _, _, rfl, _, rfl⟩; simp)) ?_).le (by omega))) fun _ => ?_
  · rintro d ⟨_, rfl, _, _, rfl, rfl, _, _, rfl, rfl, x, _, rfl, hx, rfl⟩
    exact ⟨r0, r1, r2, r3, h0, h1, h2, h3, .inr (.inl ⟨x, hx, rfl⟩)⟩
  refine is_if hp (an_test (ev_op (ev_var (i := 5) rfl dW) ev_int rd_eqI)) (fun _ => is_ret ((IE.imp (ie_pick hp rfl (ie_lst hp (ia_cons hp (ie_ev (ev_tup (eva_cons ev_str (eva_cons (ev_op (ev_var (i := 4) rfl dS) ev_int (rd_ixSL (d := .int r0) atI_zero)) eva_nil)) (line1000 (by simp)))) (ia_cons hp (ie_ev (ev_tup (eva_cons ev_str (eva_cons (ev_op (ev_var (i := 4) rfl dS) ev_int (rd_ixSL (d := .int r0) atI_zero)) eva_nil)) (line1000 (by simp)))) (ia_cons hp (ie_ev (ev_tup (eva_cons ev_str eva_nil) (line1000 (by simp)))) (ia_cons hp (ie_tup hp (ia_cons hp (ie_ev ev_str) (ia_cons hp (ie_pickK hp rfl (ev_lst (eva_cons ev_int (eva_cons ev_int (eva_cons ev_int eva_nil))) (line1000 (by simp))) (by simp) (by simp) (by omega)) (ia_cons hp (ie_ev (ev_op (ev_var (i := 4) rfl dS) ev_int (rd_ixSL (d := .int r0) atI_zero))) ia_nil))) (by rintro _ ⟨_, _, rfl, _, _, _, rfl, _, _, _, rfl, _, rfl⟩; simp)) ia_nil)))) (by rintro _ ⟨_, _, rfl, _, _, _, rfl, _, _, _, rfl, _, _, _, rfl, _, rfl⟩; simp)) (by rintro _ ⟨_, _, rfl, _, _, _, rfl, _, _, _, rfl, _, _, _, rfl, _, rfl⟩; exact ⟨by simp, by simp⟩) (by omega)) ?_).le (by omega))) fun _ => ?_
  · rintro d ⟨_, ⟨_, _, rfl, rfl, _, _, rfl, rfl, _, _, rfl, rfl, _, _, rfl, ⟨_, rfl, _, _, rfl, rfl, x, _, rfl, hx, _, _, rfl, rfl, rfl⟩, rfl⟩, hd⟩
    refine ⟨r0, r1, r2, r3, h0, h1, h2, h3, .inr (.inr ?_)⟩
    simp only [List.mem_cons, List.not_mem_nil, or_false] at hd hx
    rcases hd with rfl | rfl | rfl | rfl
    · exact .inl rfl
    · exact .inr (.inl rfl)
    · exact .inr (.inr (.inl rfl))
    · refine .inr (.inr (.inr (.inl ?_)))
      rcases hx with rfl | rfl | rfl <;> exact ⟨_, by simp, rfl⟩
  refine is_if hp (an_test (ev_op (ev_var (i := 5) rfl dW) ev_int rd_eqI)) (fun _ => is_ret ((IE.imp (ie_pick hp rfl (ie_lst hp (ia_cons hp (ie_ev (ev_tup (eva_cons ev_str eva_nil) (line1000 (by simp)))) (ia_cons hp (ie_ev (ev_tup (eva_cons ev_str (eva_cons (ev_op (ev_var (i := 4) rfl dS) ev_int (rd_ixSL (d := .int r0) atI_zero)) eva_nil)) (line1000 (by simp)))) (ia_cons hp (ie_tup hp (ia_cons hp (ie_ev ev_str) (ia_cons hp (ie_ev (ev_op (ev_var (i := 4) rfl dS) ev_int (rd_ixSL (d := .int r0) atI_zero))) (ia_cons hp (ie_pickK hp rfl (ev_lst (eva_cons ev_int (eva_cons ev_int (eva_cons ev_int eva_nil))) (line1000 (by simp))) (by simp) (by simp) (by omega)) ia_nil))) (by rintro _ ⟨_, _, rfl, _, _, _, rfl, _, _, _, rfl, _, rfl⟩; simp)) (ia_cons hp (ie_ev (ev_tup (eva_cons ev_str (eva_cons (ev_op (ev_var (i := 4) rfl dS) ev_int (rd_ixSL (d := .int r1) atI_1)) eva_nil)) (line1000 (by simp)))) ia_nil)))) (by rintro _ ⟨_, _, rfl, _, _, _, rfl, _, _, _, rfl, _, _, _, rfl, _, rfl⟩; simp)) (by rintro _ ⟨_, _, rfl, _, _, _, rfl, _, _, _, rfl, _, _, _, rfl, _, rfl⟩; exact ⟨by simp, by simp⟩) (by omega)) ?_).le (by omega))) fun _ => ?_
  · rintro d ⟨_, ⟨_, _, rfl, rfl, _, _, rfl, rfl, _, _, rfl, ⟨_, rfl, _, _, rfl, rfl, _, _, rfl, rfl, x, _, rfl, hx, rfl⟩, _, _, rfl, rfl, rfl⟩, hd⟩
    simp only [List.mem_cons, List.not_mem_nil, or_false] at hd hx
    rcases hd with rfl | rfl | rfl | rfl
    · exact ⟨r0, r1, r2, r3, h0, h1, h2, h3, .inr (.inr (.inr (.inr (.inl rfl))))⟩
    · exact ⟨r0, r1, r2, r3, h0, h1, h2, h3, .inr (.inr (.inr (.inr (.inr (.inr (.inl rfl))))))⟩
    · refine ⟨r0, r1, r2, r3, h0, h1, h2, h3, .inr (.inr (.inr (.inr (.inr (.inr (.inr (.inl ?_)))))))⟩
      rcases hx with rfl | rfl | rfl <;> exact ⟨_, by simp, rfl⟩
    · exact ⟨r1, r1, r2, r3, h1, h1, h2, h3, .inr (.inr (.inr (.inr (.inr (.inr (.inl rfl))))))⟩
  refine is_if (b := decide (way = 4) && !PyData.eqv (.list calls) (.list [])) hp (an_and (an_test (ev_op (ev_var (i := 5) rfl dW) ev_int rd_eqI)) fun _ => an_test (ev_op (ev_var (i := 3) rfl dcl) (ev_lst eva_nil (by decide +kernel)) (rd_neD (shaped_small sc (by omega)) (by decide +kernel)))) (fun e => is_ret ((IE.imp (ie_tup hp (ia_cons hp (ie_pickK hp rfl (ev_var (i := 3) rfl dcl) (fun z => by rw [z] at e; simp [PyData.eqv, PyData.eqvAll] at e) (by omega) (by omega)) (ia_cons hp (ie_ev (ev_op (ev_var (i := 4) rfl dS) ev_int (rd_ixSL (d := .int r0) atI_zero))) ia_nil)) (by rintro _ ⟨_, _, rfl, _, _, _, rfl, _, rfl⟩; simp)) ?_).le (by omega))) fun _ => ?_
  · rintro d ⟨_, rfl, x, _, rfl, hx, _, _, rfl, rfl, rfl⟩
    exact ⟨r0, r1, r2, r3, h0, h1, h2, h3, .inr (.inr (.inr (.inr (.inr (.inr (.inr (.inr (.inl ⟨x, hx, rfl⟩))))))))⟩
  refine is_if hp (an_test (ev_op (ev_var (i := 5) rfl dW) ev_int rd_eqI)) (fun _ => is_ret ((IE.imp (ie_tup hp (ia_cons hp (ie_pickK hp rfl (ev_lst (eva_cons ev_str (eva_cons ev_str (eva_cons ev_str (eva_cons ev_str (eva_cons ev_str (eva_cons ev_str (eva_cons ev_str eva_nil))))))) (line1000 (by simp))) (by simp) (by simp) (by omega)) (ia_cons hp (ie_ev (ev_op (ev_var (i := 4) rfl dS) ev_int (rd_ixSL (d := .int r0) atI_zero))) (ia_cons hp (ie_ev (ev_op (ev_var (i := 4) rfl dS) ev_int (rd_ixSL (d := .int r1) atI_1))) ia_nil))) (by rintro _ ⟨_, _, rfl, _, _, _, rfl, _, _, _, rfl, _, rfl⟩; simp)) ?_).le (by omega))) fun _ => ?_
  · rintro d ⟨_, rfl, x, _, rfl, hx, _, _, rfl, rfl, _, _, rfl, rfl, rfl⟩
    refine ⟨r0, r1, r2, r3, h0, h1, h2, h3, .inr (.inr (.inr (.inr (.inr (.inr (.inr (.inr (.inr (.inl ?_)))))))))⟩
    simp only [List.mem_cons, List.not_mem_nil, or_false] at hx
    rcases hx with rfl | rfl | rfl | rfl | rfl | rfl | rfl <;> exact ⟨_, by simp, rfl⟩
  refine is_if hp (an_test (ev_op (ev_var (i := 5) rfl dW) ev_int rd_eqI)) (fun _ => is_ret ((IE.imp (ie_ev (ev_tup (eva_cons ev_str (eva_cons (ev_op (ev_var (i := 4) rfl dS) ev_int (rd_ixSL (d := .int r0) atI_zero)) (eva_cons (ev_op (ev_var (i := 4) rfl dS) ev_int (rd_ixSL (d := .int r1) atI_1)) (eva_cons (ev_op (ev_var (i := 4) rfl dS) ev_int (rd_ixSL (d := .int r2) atI_2)) (eva_cons (ev_op (ev_var (i := 4) rfl dS) ev_int (rd_ixSL (d := .int r3) atI_3)) eva_nil))))) (line1000 (by simp)))) ?_).le (by omega))) fun _ => ?_
  · rintro d rfl
    exact ⟨r0, r1, r2, r3, h0, h1, h2, h3, .inr (.inr (.inr (.inr (.inr (.inr (.inr (.inr (.inr (.inr (.inl rfl))))))))))⟩
  refine is_ret ((IE.imp (ie_tup hp (ia_cons hp (ie_pickK hp rfl (ev_lst (eva_cons ev_str (eva_cons ev_str (eva_cons ev_str (eva_cons ev_str (eva_cons ev_str (eva_cons ev_str (eva_cons ev_str (eva_cons ev_str (eva_cons ev_str (eva_cons ev_str (eva_cons ev_str eva_nil))))))))))) (line1000 (by simp))) (by simp) (by simp) (by omega)) (ia_cons hp (ie_ev (ev_op (ev_var (i := 4) rfl dS) ev_int (rd_ixSL (d := .int r0) atI_zero))) (ia_cons hp (ie_ev (ev_op (ev_var (i := 4) rfl dS) ev_int (rd_ixSL (d := .int r1) atI_1))) (ia_cons hp (ie_ev (ev_op (ev_var (i := 4) rfl dS) ev_int (rd_ixSL (d := .int r2) atI_2))) ia_nil)))) (by rintro _ ⟨_, _, rfl, _, _, _, rfl, _, _, _, rfl, _, _, _, rfl, _, rfl⟩; simp)) ?_).le (by omega))
  · rintro d ⟨_, rfl, x, _, rfl, hx, _, _, rfl, rfl, _, _, rfl, rfl, _, _, rfl, rfl, rfl⟩
    refine ⟨r0, r1, r2, r3, h0, h1, h2, h3, .inr (.inr (.inr (.inr (.inr (.inr (.inr (.inr (.inr (.inr (.inr ?_))))))))))⟩
    simp only [List.mem_cons, List.not_mem_nil, or_false] at hx
    rcases hx with rfl | rfl | rfl | rfl | rfl | rfl | rfl | rfl | rfl | rfl | rfl <;> exact ⟨_, by simp, rfl⟩
end
end K81
namespace K81
open PySem PySem.Spec PyProof.Rows L2

section
variable {P : Program} {w : World} {K : PySem.W.Frag} {mg : Str → Option Value} {base : Heap}
def callS (w name : Str) (k : Int) : Str := (((Str.empty ++ w) ++ name) ++ (" " : Str)) ++ (toString k : Str)
def labelsD (w name : Str) (size : Nat) : List PyData := (rngD 0 size).map fun d => .str (callS w name (intOf d))
def abcD : List PyData := [.str "a", .str "b", .str "c"]
def rowsOk (m : Int) (names calls : List PyData) (most : Nat) (b : PyData) : Prop := ∃ rows, b = .list rows ∧ rows.length ≤ most ∧ ∀ r ∈ rows, plainOk m names calls r
def FStep (m : Int) (name : Str) (fs cs fs' cs' : List PyData) : Prop := ∃ (k : Nat) (bl : List PyData), k ≤ 3 ∧ 1 ≤ bl.length ∧ bl.length ≤ 3 ∧ (∀ b ∈ bl, rowsOk m (abcD.take k) cs 6 b) ∧
  fs' = fs ++ [.tuple [.str name, .list (abcD.take k), .list bl]] ∧ cs' = cs ++ labelsD "call " name bl.length ++ (if bl.length = k then labelsD "loop " name bl.length else [])
def fname : Nat → Str
  | 0 => "f"
  | _ => "g2"
def FChain (m : Int) : Nat → List PyData → List PyData → Prop
  | 0, fs, cs => fs = [] ∧ cs = []
  | i + 1, fs', cs' => ∃ fs cs, FChain m i fs cs ∧ FStep m (fname i) fs cs fs' cs'
theorem callS_len {w name : Str} {k : Nat} (hw : w.length ≤ 10) (hn : name.length ≤ 10) (hk : k < 3) : (callS w name (k : Int)).length ≤ 30 := by
  have h : (toString ((k : Nat) : Int) : Str).length ≤ 5 := by
    rcases (by omega : k = 0 ∨ k = 1 ∨ k = 2) with rfl | rfl | rfl <;> decide +kernel
  unfold callS
  simp only [Str.length_append]
  have h1 : (Str.empty).length = 0 := by decide
  have h2 : (" " : Str).length = 1 := by decide
  omega
theorem labels_len {w name : Str} {k : Nat} : (labelsD w name k).length = k := by unfold labelsD; rw [List.length_map, rngD_length]
theorem labels_mem {w name : Str} {k : Nat} {d : PyData} (h : d ∈ labelsD w name k) : ∃ j : Nat, j < k ∧ d = .str (callS w name (j : Int)) := by
  unfold labelsD at h
  obtain ⟨e, he, rfl⟩ := List.mem_map.mp h
  unfold rngD at he
  obtain ⟨j, hj, rfl⟩ := List.mem_map.mp he
  exact ⟨j, List.mem_range.mp hj, by rw [Int.zero_add]; rfl⟩
theorem fname_small (i : Nat) : smallD (.str (fname i)) = true ∧ (fname i).length ≤ 10 := by
  cases i with
  | zero => exact ⟨by decide +kernel, by decide +kernel⟩
  | succ i => exact (⟨by decide +kernel, by decide +kernel⟩ : smallD (.str "g2") = true ∧ ("g2" : Str).length ≤ 10)
theorem label_small {w name : Str} {k : Nat} (hw : smallD (.str w) = true ∧ w.length ≤ 10) (hn : smallD (.str name) = true ∧ name.length ≤ 10) (hk : k < 3) : smallD (.str (callS w name (k : Int))) = true := by
  rw [smallD, Bool.and_eq_true]
  refine ⟨decide_eq_true (Nat.le_trans (callS_len hw.2 hn.2 hk) (by decide)), ?_⟩
  have h1 := strOk_iff.mp (small_strOk hw.1)
  have h2 := strOk_iff.mp (small_strOk hn.1)
  have h3 : ∀ c ∈ (toString ((k : Nat) : Int) : Str).cps, c < 0x110000 := by
    rcases (by omega : k = 0 ∨ k = 1 ∨ k = 2) with rfl | rfl | rfl <;> exact strOk_iff.mp (by decide +kernel)
  rw [strOk_iff]
  intro c hc
  unfold callS at hc
  have app : ∀ {x y : Str}, c ∈ (x ++ y).cps → c ∈ x.cps ∨ c ∈ y.cps := fun {x y} h => Array.mem_append.mp h
  rcases app hc with hc | hc
  · rcases app hc with hc | hc
    · rcases app hc with hc | hc
      · rcases app hc with hc | hc
        · simp [Str.empty] at hc
        · exact h1 c hc
      · exact h2 c hc
    · exact strOk_iff.mp (by decide +kernel : PyData.strOk " " = true) c hc
  · exact h3 c hc
theorem chain_small {m : Int} : ∀ {i : Nat} {fs cs : List PyData}, FChain m i fs cs → fs.length = i ∧ cs.length ≤ 6 * i ∧ ∀ c ∈ cs, ∃ x, c = .str x ∧ smallD c = true
  | 0, _, _, ⟨h1, h2⟩ => by rw [h1, h2]; exact ⟨rfl, Nat.le_refl _, fun c hc => by cases hc⟩
  | i + 1, _, _, ⟨fs, cs, h, k, bl, hk, h1, h3, _, rfl, rfl⟩ => by
    obtain ⟨a1, a2, a3⟩ := chain_small h
    have hl : ∀ w, smallD (.str w) = true ∧ w.length ≤ 10 → ∀ c ∈ labelsD w (fname i) bl.length, ∃ x, c = .str x ∧ smallD c = true := fun w hw c hc => by
      obtain ⟨j, hj, rfl⟩ := labels_mem hc
      exact ⟨_, rfl, label_small hw (fname_small i) (by omega)⟩
    have hc : ∀ c ∈ labelsD "call " (fname i) bl.length, ∃ x, c = .str x ∧ smallD c = true := hl _ ⟨by decide +kernel, by decide +kernel⟩
    have hp : ∀ c ∈ (if bl.length = k then labelsD "loop " (fname i) bl.length else []), ∃ x, c = .str x ∧ smallD c = true := fun c hc => by
      split at hc
      · exact hl _ ⟨by decide +kernel, by decide +kernel⟩ c hc
      · cases hc
    have lp : (if bl.length = k then labelsD "loop " (fname i) bl.length else []).length ≤ 3 := by
      split
      · rw [labels_len]; exact h3
      · exact Nat.zero_le _
    refine ⟨by rw [List.length_append, a1]; rfl, ?_, fun c hcc => ?_⟩
    · rw [List.length_append, List.length_append, labels_len]; omega
    · rcases List.mem_append.mp hcc with hcc | hcc
      · rcases List.mem_append.mp hcc with hcc | hcc
        · exact a3 c hcc
        · exact hc c hcc
      · exact hp c hcc
theorem strs_depth {cs : List PyData} (h : ∀ c ∈ cs, ∃ x, c = .str x ∧ smallD c = true) (hl : cs.length ≤ 1000) : smallD (.list cs) = true ∧ (PyData.list cs).depth ≤ 5 := by
  refine ⟨of_small_list hl fun c hc => (h c hc).elim fun x e => e.2, Nat.le_trans (depth_list (n := 0).mpr fun c hc => ?_) (by decide)⟩
  obtain ⟨x, rfl, _⟩ := h c hc
  exact Nat.le_refl _
/-- what _law_blocks gives -/
def blocksR (m : Int) (d : PyData) : Prop := ∃ (i : Nat) (fs cs : List PyData), i ≤ 2 ∧ FChain m i fs cs ∧ d = .tuple [.list fs, .list cs]
def N__law_blocks : List Str := ["_law_pen_here", "_law_many", "_law_found", "_law_calls", "_law_name", "_law_parameters", "_law_size", "_law_blocks_here", "_law_block", "_law_row", "_law_at"]
theorem sc_blocks : FnScope N__law_blocks ["_law_pen_here", "_law_many"] (defScope s__law_blocks) := ⟨rfl, rfl, rfl, by decide +kernel, rfl, by decide +kernel, by decide +kernel⟩
abbrev sp_plain (K : PySem.W.Frag) : Sp := spI K 8 (fun ds => ∃ (m : Int) (names calls : List PyData), ds = [.int m, .list names, .list calls] ∧ 0 < m ∧ m < 1000 ∧ names.length ≤ 100 ∧ calls.length ≤ 100 ∧ smallD (.list calls) = true ∧ (PyData.list calls).depth ≤ 5) (fun ds d => match ds with | [.int m, .list names, .list calls] => plainOk m names calls d | _ => False)
theorem ok_blocks (A0 : At K mg "_law_blocks" s__law_blocks ["_law_pen_here", "_law_many"]) (T : Tx w K mg) (D__law_draw : Df P w K mg base "_law_draw" 1 ["_law_pen_here", "_law_many"] (spDraw K)) (D__law_pick : Df P w K mg base "_law_pick" 2 ["_law_pen_here", "_law_some"] (spPick K))
    (D__law_plain : Df P w K mg base "_law_plain" 3 ["_law_pen_here", "_law_many", "_law_names", "_law_calls"] (sp_plain K)) :
    Df P w K mg base "_law_blocks" 4 ["_law_pen_here", "_law_many"] (spI K 301 (fun ds => ∃ m : Int, ds = [.int m] ∧ 0 < m ∧ m < 1000) (fun ds d => match ds with | [.int m] => blocksR m d | _ => False)) := by
  obtain ⟨f__law_draw, fd__law_draw, g__law_draw, kp__law_draw, b__law_draw, G__law_draw⟩ := D__law_draw
  obtain ⟨f__law_pick, fd__law_pick, g__law_pick, kp__law_pick, b__law_pick, G__law_pick⟩ := D__law_pick
  obtain ⟨f__law_plain, fd__law_plain, g__law_plain, kp__law_plain, b__law_plain, G__law_plain⟩ := D__law_plain
  refine df_i A0 sc_blocks ?_ (fun f cdv A outer s H E hr => ?_)
  · rintro ds ⟨m, rfl, _⟩; rfl
  have nd := sc_blocks.nd
  refine ⟨_, (pss_cons (ps_asg (pe_tup (pa_cons (pe_lst pa_nil) (pa_cons (pe_lst pa_nil) pa_nil))) (pg_tupK (n := 2) K rfl rfl (pgs_cons (pg_name (i := 2) nd rfl (Or.inl rfl)) (pgs_cons (pg_name (i := 3) nd rfl (Or.inr rfl)) pgs_nil))))
    (pss_cons (ps_for PassesOwn.never rfl (pi_list (pe_slice sl_list (pe_lst (pa_cons pe_str (pa_cons pe_str pa_nil))) po_none (po_some (pe_call G__law_draw (hr.mono (by decide)) (by rfl) g__law_draw kp__law_draw b__law_draw .nil pass0 (pa_cons (pv 0) (pa_cons pe_int pa_nil)))))) (pg_name (i := 4) nd rfl (Or.inr rfl)) (pss_cons (ps_set (i := 5) nd rfl (Or.inr rfl) (pe_slice sl_list (pe_lst (pa_cons pe_str (pa_cons pe_str (pa_cons pe_str pa_nil)))) po_none (po_some (pe_call G__law_pick (hr.mono (by decide)) (by rfl) g__law_pick kp__law_pick b__law_pick .nil pass0 (pa_cons (pv 0) (pa_cons (pe_lst (pa_cons pe_int (pa_cons pe_int (pa_cons pe_int (pa_cons pe_int pa_nil))))) pa_nil))))))
    (pss_cons (ps_set (i := 6) nd rfl (Or.inl rfl) (pe_ifExp (PW.pt (pw_and (pt_cmpR (r := rNeD K) (op_neD hr.units) (pv 5) (pe_lst pa_nil) (nomark _)) (pw_and1 (pt_cmpR op_gt (pe_call G__law_draw (hr.mono (by decide)) (by rfl) g__law_draw kp__law_draw b__law_draw .nil pass0 (pa_cons (pv 0) (pa_cons pe_int pa_nil))) pe_int (nomark _))))) (pe_callB (r := fun xs H Q => ∃ x n, xs = [x] ∧ LenV K x H n ∧ Q (.int n) H) call_len (by rfl) T.b_len PySem.boot_len (pa_cons (pv 5) pa_nil)) (pe_op op_add pe_int (pe_call G__law_draw (hr.mono (by decide)) (by rfl) g__law_draw kp__law_draw b__law_draw .nil pass0 (pa_cons (pv 0) (pa_cons pe_int pa_nil))))))
    (pss_cons (ps_setLc (i := 7) (own := [("_law_block", 8)]) rfl nd rfl rfl (sw_true rfl rfl rfl (by decide +kernel)) (pi_range1 (by rfl) T.b_range (pa_cons (pv 6) pa_nil)) (blkOk_by (N := N__law_blocks) (sc := defScope s__law_blocks) (by decide +kernel)) (fun _ _ _ _ _ => (pg_name (i := 8) nd rfl (Or.inl rfl))) (fun _ _ _ _ _ => pts_nil) (fun _ _ _ _ _ => (pe_lc (own := [("_law_row", 9)]) rfl nd (pi_range1 (by rfl) T.b_range (pa_cons (pe_call G__law_draw (hr.mono (by decide)) (by rfl) g__law_draw kp__law_draw b__law_draw .nil pass0 (pa_cons (pv 0) (pa_cons pe_int pa_nil))) pa_nil)) (blkOk_by (by kernel_rfl)) (fun _ _ _ _ _ => (pg_name (i := 9) nd rfl (Or.inl rfl))) (fun _ _ _ _ _ => pts_nil) (fun _ _ _ _ _ => (pe_call G__law_plain (hr.mono (by decide)) (by rfl) g__law_plain kp__law_plain b__law_plain .nil pass0 (pa_cons (pv 0) (pa_cons (pv 1) (pa_cons (pv 5) (pa_cons (pe_callTy (r := fun xs H Q => ∃ p ys, xs = [.ref p] ∧ (SqL K H p ys ∨ SqT K H p ys) ∧ ∀ l, H l = none → Q (.ref l) (upd H l (.lst ys))) call_list_of (by rfl) T.b_list boot_list (pa_cons (pv 3) pa_nil)) pa_nil)))))))))
    (pss_cons (ps_expr (pe_bm PySem.F.plainAttrs_list PySem.F.slot_list_append PySem.F.type_list_append mt_append (pv 2) (pa_cons (pe_tup (pa_cons (pv 4) (pa_cons (pv 5) (pa_cons (pv 7) pa_nil)))) pa_nil)))
    (pss_cons (ps_set (i := 3) nd rfl (Or.inr rfl) (pe_op op_cat (pv 3) (pe_lc (own := [("_law_at", 10)]) rfl nd (pi_range1 (by rfl) T.b_range (pa_cons (pv 6) pa_nil)) (blkOk_by (N := N__law_blocks) (sc := defScope s__law_blocks) (by decide +kernel)) (fun _ _ _ _ _ => (pg_name (i := 10) nd rfl (Or.inl rfl))) (fun _ _ _ _ _ => pts_nil) (fun _ _ _ _ _ => (pe_joined (.cons pe_str (.cons (pe_fmt (pv 4)) (.cons pe_str (.cons (pe_fmt (pv 10)) .nil)))))))))
    (pss_one (ps_if (pt_cmpR op_eq (pv 6) (pe_callB (r := fun xs H Q => ∃ x n, xs = [x] ∧ LenV K x H n ∧ Q (.int n) H) call_len (by rfl) T.b_len PySem.boot_len (pa_cons (pv 5) pa_nil)) (nomark _)) (pss_one (ps_set (i := 3) nd rfl (Or.inr rfl) (pe_op op_cat (pv 3) (pe_lc (own := [("_law_at", 10)]) rfl nd (pi_range1 (by rfl) T.b_range (pa_cons (pv 6) pa_nil)) (blkOk_by (N := N__law_blocks) (sc := defScope s__law_blocks) (by decide +kernel)) (fun _ _ _ _ _ => (pg_name (i := 10) nd rfl (Or.inl rfl))) (fun _ _ _ _ _ => pts_nil) (fun _ _ _ _ _ => (pe_joined (.cons pe_str (.cons (pe_fmt (pv 4)) (.cons pe_str (.cons (pe_fmt (pv 10)) .nil)))))))))) pss_nil))))))))
    (pss_one (ps_ret (pe_tup (pa_cons (pv 2) (pa_cons (pv 3) pa_nil))))))), fun Z G p n us ds hp hv hP hn => ?_⟩
  obtain ⟨m, rfl, m0, m1⟩ := hP
  obtain ⟨vm, rfl, dm⟩ := all1 hv
  rw [dm.int_inv]
  show IS K Z p n (n + 301) _ _ G (blocksR m)
  intro H1 s o P1 D q
  refine ⟨by simp, fun F hF => ⟨by simp, fun C hC => ⟨by simp [sizeLine_eq], fun T0 hT => ⟨T0, [.ref F, .ref C], rfl, .inl (.inl upd_same), rfl, _, _, rfl, _, _, rfl, rfl, ?_⟩⟩⟩⟩
  have hFC : C ≠ F := fun e => by rw [e, upd_same] at hC; cases hC
  have hFp : F ≠ p := fun e => P1.there (e ▸ hF)
  have hFZ : F ∉ Z := o.new hF
  have s13 : Same H1 (upd (upd (upd H1 F (.lst [])) C (.lst [])) T0 (.tup [.ref F, .ref C])) := (same_upd hF).trans ((same_upd hC).trans (same_upd hT))
  have hF3 : (upd (upd (upd H1 F (.lst [])) C (.lst [])) T0 (.tup [.ref F, .ref C])) F = some (.lst []) := ((same_upd hC).trans (same_upd hT)) _ _ upd_same
  have hC3 : (upd (upd (upd H1 F (.lst [])) C (.lst [])) T0 (.tup [.ref F, .ref C])) C = some (.lst []) := (same_upd hT) _ _ upd_same
  generalize upd (upd (upd H1 F (.lst [])) C (.lst [])) T0 (.tup [.ref F, .ref C]) = H3 at s13 hF3 hC3
  have o3 : Occ (F :: Z) H3 := fun z hz => by
    rcases List.mem_cons.mp hz with e | e
    · rw [e, hF3]; simp
    · exact (o.same s13) z e
  have hp2 : p ∈ F :: Z := List.mem_cons_of_mem _ hp
  have hC2 : C ∉ F :: Z := fun z => (List.mem_cons.mp z).elim hFC fun z => by
    cases qq : H1 C with
    | none => exact o C z qq
    | some u => rw [(same_upd hF) _ _ qq] at hC; cases hC
  refine nx_of (seq_for (for_cps ?_))
  refine (iw_list (RA := fun items => ∃ r : Nat, r ≤ 2 ∧ items = ([.str "f", .str "g2"] : List PyData).take r) hp2 ((ie_slL (RN := fun r => r ≤ 2) hp2 (ev_lst (eva_cons ev_str (eva_cons ev_str eva_nil)) (line1000 (by simp))) ((ie_drawK (i := 0) (m := 3) (σ := [some (.ref p), some (.int m), some (.ref F), some (.ref C), none, none, none, none, none, none, none]) hp2 rfl ev_int (by decide) (by decide) (by omega)).imp fun d h => ?_)).imp fun d h => ?_)) H3 (Same.refl _) o3 (P1.same s13) _ fun items J H4 Gd Y ri s4 P4 W hG hY => ?_
  · obtain ⟨r, rfl, h0, h1⟩ := h
    exact ⟨r.toNat, by rw [Int.toNat_of_nonneg h0], by omega⟩
  · obtain ⟨r, h0, rfl⟩ := h
    exact ⟨_, rfl, r, h0, rfl⟩
  obtain ⟨r, hr2, rfl⟩ := ri
  have hlen : (([.str "f", .str "g2"] : List PyData).take r).length = r := by simp; omega
  have s14 : SB p H1 H4 := (SB.of s13).trans s4
  refine for_it W (fun i σ H => ∃ (fs cs : List PyData) (xsF : List V) (vC : V) (u4 u5 u6 u7 : Option V), σ = [some (.ref p), some (.int m), some (.ref F), some vC, u4, u5, u6, u7, none, none, none] ∧ H F = some (.lst xsF) ∧ DxAll K (hid (F :: Z) H) xsF fs ∧ Dx K (hid (F :: Z) H) vC (.list cs) ∧
    SB p H1 H ∧ Same (hid (F :: Z) H4) (hid (F :: Z) H) ∧ Pen K p (n + 1 + i * 150) H ∧ FChain m i fs cs) ?_ (fun i σ H _ h => ?_) ?_ ?_
  · refine ⟨[], [], [], .ref C, _, _, _, _, rfl, s4.1 _ _ hFp hF3, .nil, Dx.same (s4.hid hp2) _ _ (.lst (by rw [hid_out hC2]; exact hC3) .nil), s14, Same.refl _, P4.le (by omega), rfl, rfl⟩
  · obtain ⟨_, _, _, _, _, _, _, _, _, _, _, _, _, sH, _⟩ := h
    exact hG H sH
  · rintro i x σ H H' hlt ⟨fs, cs, xsF, vC, u4, u5, u6, u7, rfl, hFx, dfs, dcs, s1H, s4H, PH, hch⟩ y
    rw [hlen] at hlt
    obtain ⟨s', d, hd, dx⟩ := hY i H x H' (by rw [hlen]; exact hlt) s4H y
    obtain ⟨c1, c2, c3⟩ := chain_small hch
    have oH : Occ (F :: Z) H := fun z hz => by
      rcases List.mem_cons.mp hz with e | e
      · rw [e, hFx]; simp
      · exact (o.sb s1H PH.there) z e
    have dx := dx (F :: Z) s4H oH
    have hdn : d = .str (fname i) := by
      rcases (by omega : i = 0 ∨ i = 1) with rfl | rfl
      · rcases (by omega : r = 1 ∨ r = 2) with rfl | rfl <;> (simp at hd; exact hd.symm)
      · obtain rfl : r = 2 := by omega
        simp at hd; exact hd.symm
    subst hdn
    rw [dx.str_inv]
    have s15 : SB p H1 H' := s1H.trans (.of s')
    replace s4H := s4H.trans (same_hid s')
    replace PH := PH.same s'
    replace oH := oH.same s'
    replace hFx := s' _ _ hFx
    replace dfs := DxAll.same (same_hid s') _ _ dfs
    replace dcs := Dx.same (same_hid s') _ _ dcs
    clear dx s' y
    -- parameters
    refine ie_setC (K := K) oH PH (ie_slL (RN := fun r => r ≤ 3) hp2 (ev_lst (eva_cons ev_str (eva_cons ev_str (eva_cons ev_str eva_nil))) (line1000 (by simp))) ((ie_pickK hp2 rfl (ev_lst (eva_cons ev_int (eva_cons ev_int (eva_cons ev_int (eva_cons ev_int eva_nil)))) (line1000 (by simp))) (by simp) (by simp) (by omega)).imp fun d h => ?_)) fun d v5 H5 rr s5 P5 d5 => ?_
    · simp only [List.mem_cons, List.not_mem_nil, or_false] at h
      rcases h with rfl | rfl | rfl | rfl
      · exact ⟨2, rfl, by decide⟩
      · exact ⟨1, rfl, by decide⟩
      · exact ⟨3, rfl, by decide⟩
      · exact ⟨0, rfl, by decide⟩
    obtain ⟨k, hk, rfl⟩ := rr
    have hkl : (abcD.take k).length = k := by unfold abcD; simp; omega
    have dpar : Dx K (hid (F :: Z) H5) v5 (.list (abcD.take k)) := d5
    have hsp : smallD (.list (abcD.take k)) = true ∧ (PyData.list (abcD.take k)).depth ≤ 1 := by
      rcases (by omega : k = 0 ∨ k = 1 ∨ k = 2 ∨ k = 3) with rfl | rfl | rfl | rfl <;> exact ⟨by decide +kernel, by decide +kernel⟩
    have oH5 := occ_step oH s5 P5
    replace s15 := s15.trans s5
    replace s4H := s4H.trans (s5.hid hp2)
    replace hFx := s5.1 _ _ hFp hFx
    replace dfs := DxAll.same (s5.hid hp2) _ _ dfs
    replace dcs := Dx.same (s5.hid hp2) _ _ dcs
    clear s5 d5
    -- size
    have hlenp : ∀ {σ : L2.St}, σ[5]? = some (some v5) → Ev K (F :: Z) (tCB (fun xs H Q => ∃ x n, xs = [x] ∧ LenV K x H n ∧ Q (.int n) H) (tCons (tVar 5) tNil)) σ (hid (F :: Z) H5) (.int k) := fun e => (ev_cb (eva_cons (ev_var e dpar) eva_nil) rc_lenL).to (by rw [hkl])
    refine ie_setC (K := K) oH5 P5 (ie_if (R := fun d => ∃ sz : Nat, d = .int sz ∧ 1 ≤ sz ∧ sz ≤ 3) (n2 := n + 1 + i * 150 + 3) hp2 ((in_and (b := !PyData.eqv (.list (abcD.take k)) (.list [])) hp2 (an_test (ev_op (ev_var rfl dpar) (ev_lst eva_nil (by decide +kernel)) (rd_neD (shaped_small hsp.1 (by omega)) (by decide +kernel)))) (fun _ => in_test ((ie_op (f := fun x _ => .bool (decide (intOf x > 0))) hp2 (ie_drawK hp2 rfl ev_int (by decide) (by decide) (by omega)) (ie_ev ev_int) (fun x y hx hy => by
        obtain ⟨r, rfl, _⟩ := hx
        rw [hy]
        exact rd_i0 fun _ => .bl _)).imp fun d h => by
        obtain ⟨_, _, _, _, rfl⟩ := h
        exact ⟨_, rfl⟩)) (by omega))) (fun hb => ?_) fun _ => ?_) fun d v6 H6 rr s6 P6 d6 => ?_
    · refine ((ie_ev (hlenp rfl)).imp fun d e => ?_).le (by omega)
      have hb := hb rfl
      refine ⟨k, e, ?_, hk⟩
      rcases (by omega : k = 0 ∨ 1 ≤ k) with rfl | h
      · simp [PyData.eqv, PyData.eqvAll] at hb
      · exact h
    · refine ((ie_op (f := fun x y => .int (intOf x + intOf y)) hp2 (ie_ev ev_int) (ie_drawK hp2 rfl ev_int (by decide) (by decide) (by omega)) (fun x y hx hy => by
        obtain ⟨r, rfl, _⟩ := hy
        rw [hx]
        exact rd_i0 fun _ => .int _)).imp fun d h => ?_).le (by omega)
      obtain ⟨_, _, rfl, ⟨r, rfl, r0, r1⟩, rfl⟩ := h
      exact ⟨(1 + r).toNat, by rw [Int.toNat_of_nonneg (by omega)]; rfl, by omega, by omega⟩
    obtain ⟨sz, rfl, sz1, sz3⟩ := rr
    rw [d6.int_inv]
    have oH6 := occ_step oH5 s6 P6
    replace s15 := s15.trans s6
    replace s4H := s4H.trans (s6.hid hp2)
    replace hFx := s6.1 _ _ hFp hFx
    replace dfs := DxAll.same (s6.hid hp2) _ _ dfs
    replace dcs := Dx.same (s6.hid hp2) _ _ dcs
    replace dpar := Dx.same (s6.hid hp2) _ _ dpar
    clear s6 d6 hlenp
    -- blocks
    obtain ⟨scs, dpcs⟩ := strs_depth c3 (by omega)
    refine ie_setC (K := K) oH6 P6 (ie_lc (L := 3) (k := 49) (Re := fun _ _ b => rowsOk m (abcD.take k) cs 6 b) hp2 (iw_rngC (m := sz) (eva_cons (ev_var rfl (.int _)) eva_nil) (by omega)) (fun items e => by rw [e, rngD_length]; exact ⟨sz3, by omega⟩) fun items Z' j d G' ri hp' hj hjL sG => eg_name fun u8 G2 s2 _ => ⟨rfl, ?_⟩) fun d v7 H7 rr s7 P7 d7 => ?_
    · have sG2 := sG.trans s2
      refine ((ie_lc (L := 6) (k := 8) (RI := fun items => ∃ q : Nat, q ≤ 6 ∧ items = rngD 0 q) (Re := fun _ _ r => plainOk m (abcD.take k) cs r) hp' ?_ (fun items e => by obtain ⟨q, hq, rfl⟩ := e; rw [rngD_length]; exact ⟨hq, by omega⟩) fun items2 Z2 j2 d2 G3 ri2 hp2' hj2 hj2L sG3 => eg_name fun u9 G4 s4' _ => ⟨rfl, ?_⟩).imp fun d h => ?_).le (n2 := n + 1 + i * 150 + 3 + (j + 1) * 49) (n1 := n + 1 + i * 150 + 3 + j * 49 + 1 + 6 * 8) (by omega)
      · refine iw_rngL (by decide) ((ia_cons hp' (ie_drawK hp' rfl ev_int (by decide) (by decide) (by omega)) ia_nil).imp fun ds h => ?_)
        obtain ⟨_, _, rfl, ⟨r, rfl, r0, r1⟩, rfl⟩ := h
        exact ⟨r.toNat, by rw [Int.toNat_of_nonneg r0], by omega⟩
      · have sG4 := sG2.trans (sG3.trans s4')
        refine ((ie_call hp2' rfl (ia_ev (ds := [.int m, .list (abcD.take k), .list cs]) (eva_cons (ev_var rfl (.int m)) (eva_cons (ev_var rfl (Dx.same sG4 _ _ dpar)) (eva_cons (ev_cb (eva_cons (ev_var rfl (Dx.same sG4 _ _ dcs)) eva_nil) (rc_listOf (.inl rfl))) eva_nil)))) (fun ds e => ⟨m, abcD.take k, cs, e, m0, m1, by omega, by omega, scs, dpcs⟩) (by omega)).imp fun d h => ?_).le (by omega)
        obtain ⟨ds, rfl, h⟩ := h
        exact h
      · obtain ⟨ds, items, rfl, ⟨q, hq, rfl⟩, hl, hR⟩ := h
        refine ⟨ds, rfl, by rw [hl, rngD_length]; exact hq, fun r hr => ?_⟩
        obtain ⟨j, hj, rfl⟩ := List.mem_iff_getElem.mp hr
        exact hR j _ (List.getElem?_eq_getElem hj)
    obtain ⟨bl, items, rfl, rfl, hbl, hR⟩ := rr
    rw [rngD_length] at hbl
    have oH7 := occ_step oH6 s7 P7
    replace s15 := s15.trans s7
    replace s4H := s4H.trans (s7.hid hp2)
    replace hFx := s7.1 _ _ hFp hFx
    replace dfs := DxAll.same (s7.hid hp2) _ _ dfs
    replace dcs := Dx.same (s7.hid hp2) _ _ dcs
    replace dpar := Dx.same (s7.hid hp2) _ _ dpar
    clear s7
    -- append
    refine app_setC (K := K) (i := 2) rfl hFx (by rw [dfs.length]; omega) oH7 (ev_tup (eva_cons (ev_var rfl (.str (fname i))) (eva_cons (ev_var rfl dpar) (eva_cons (ev_var rfl d7) eva_nil))) (line1000 (by simp))) fun vt H8 s8 dt => ?_
    have keepF : Same (hid (F :: Z) H8) (hid (F :: Z) (upd H8 F (.lst (xsF ++ [vt])))) := same_but fun b u hb e => by
      rw [upd_ne fun z => hb (by rw [z]; exact List.mem_cons_self)]; exact e
    have sFF : SB p H1 (upd H8 F (.lst (xsF ++ [vt]))) := ⟨fun b u nb e => by
      rw [upd_ne (ne_of_none e hF)]
      exact s8 _ _ (s15.1 _ _ nb e), fun a b c e => by
      rw [upd_ne hFp.symm]
      exact (s15.trans (.of s8)).2 a b c e⟩
    have P8 : Pen K p (n + 1 + i * 150 + 3 + 3 * 49) (upd H8 F (.lst (xsF ++ [vt]))) := pen_after P1 sFF (by rw [upd_ne hFp.symm]) (P7.same s8)
    have oH8 : Occ (F :: Z) (upd H8 F (.lst (xsF ++ [vt]))) := fun z hz => by
      by_cases e : z = F
      · rw [e, upd_same]; simp
      · rw [upd_ne e]; exact (oH7.same s8) z hz
    have s4F := s4H.trans ((same_hid s8).trans keepF)
    have dfs8 := (DxAll.same ((same_hid s8).trans keepF) _ _ dfs).snoc (Dx.same keepF _ _ dt)
    have dcs8 := Dx.same ((same_hid s8).trans keepF) _ _ dcs
    have dpar8 := Dx.same ((same_hid s8).trans keepF) _ _ dpar
    have hFx8 : (upd H8 F (.lst (xsF ++ [vt]))) F = some (.lst (xsF ++ [vt])) := upd_same
    generalize upd H8 F (.lst (xsF ++ [vt])) = H9 at sFF P8 oH8 s4F dfs8 dcs8 dpar8 hFx8
    clear keepF dfs dcs dpar s4H hFx s15 s8 dt d7
    have hnm := fname_small i
    have lab : ∀ (w : Str) {vC : V} {cs' : List PyData} {H9 : Hp}, smallD (.str w) = true ∧ w.length ≤ 10 → cs'.length ≤ 100 → Dx K (hid (F :: Z) H9) vC (.list cs') → Ev K (F :: Z) (tOp rCat (tVar 3) (tLc (iRng1 (tCons (tVar 6) tNil)) (gName 10) tYes (fun σ H Q => tJs [tC (.str w), tFmt (tVar 4), tC (.str " "), tFmt (tVar 10)] Str.empty σ H fun out H1 => Q (.str out) H1) [10]))
        [some (.ref p), some (.int m), some (.ref F), some vC, some (.str (fname i)), some v5, some (.int sz), some v7, none, none, none] (hid (F :: Z) H9) (.list (cs' ++ labelsD w (fname i) sz)) := fun w {vC cs' H9} hw hcl dc => by
      refine ev_op (ev_var rfl dc) (ev_lc (items := rngD 0 sz) (f := fun d => .str (callS w (fname i) (intOf d))) (evi_rng1 (n := sz) (eva_cons (ev_var rfl (.int _)) eva_nil) (by omega) (by omega)) (by rw [rngD_length]; exact line1000 (by omega)) fun Z' j d G' hj sG => eg_name fun u G2 s2 du => ⟨rfl, ?_⟩) (rd_cat (by rw [List.length_map, rngD_length]; omega))
      have hj' := (List.getElem?_eq_some_iff.mp hj).1
      rw [rngD_length] at hj'
      rw [rngD_get hj', Int.zero_add] at hj
      cases hj
      have hl := callS_len (w := w) (name := fname i) hw.2 hnm.2 (show j < 3 by omega)
      unfold callS at hl
      simp only [Str.length_append] at hl
      refine ev_join (evj_cons ev_str ?_ (evj_cons (ev_fmtS (ev_var rfl (.str _)) (line1000 (by omega))) ?_ (evj_cons ev_str ?_ (evj_cons (ev_fmtI (ev_var rfl du) (toStr_log (by omega))) ?_ evj_nil))))
      all_goals
        refine line1000 ?_
        simp only [Str.length_append]
        omega
    refine ev_setC (K := K) oH8 (lab "call " ⟨by decide +kernel, by decide +kernel⟩ (by omega) dcs8) fun vC2 H10 s10 dC2 => ?_
    have hlenp : Ev K (F :: Z) (tCB (fun xs H Q => ∃ x n, xs = [x] ∧ LenV K x H n ∧ Q (.int n) H) (tCons (tVar 5) tNil)) [some (.ref p), some (.int m), some (.ref F), some vC2, some (.str (fname i)), some v5, some (.int sz), some v7, none, none, none] (hid (F :: Z) H10) (.int k) := (ev_cb (eva_cons (ev_var rfl (Dx.same (same_hid s10) _ _ dpar8)) eva_nil) rc_lenL).to (by rw [hkl])
    have sz' : ((sz : Int) = (k : Int)) ↔ bl.length = k := by rw [hbl]; omega
    refine an_ifC (b := decide ((sz : Int) = (k : Int))) (oH8.same s10) (an_test (K := K) (ev_op (ev_var rfl (.int _)) hlenp rd_eqI)) (fun e H11 s11 => ?_) fun e H11 s11 => ?_
    · have e := sz'.mp (of_decide_eq_true e)
      have ss := s10.trans s11
      refine ev_setE (K := K) ((oH8.same s10).same s11) (lab "loop " ⟨by decide +kernel, by decide +kernel⟩ (by rw [List.length_append, labels_len]; omega) (Dx.same (same_hid s11) _ _ dC2)) fun vC3 H12 s12 dC3 => ?_
      have s3 := ss.trans s12
      refine ⟨_, _, _, vC3, _, _, _, _, rfl, s3 _ _ hFx8, DxAll.same (same_hid s3) _ _ dfs8, dC3, sFF.trans (.of s3), s4F.trans (same_hid s3), (P8.same s3).le (by omega), fs, cs, hch, k, bl, hk, by omega, by omega, ?_, rfl, ?_⟩
      · intro b hb
        obtain ⟨j, hj, rfl⟩ := List.mem_iff_getElem.mp hb
        exact hR j _ (List.getElem?_eq_getElem hj)
      · rw [if_pos e, hbl]
    · have e : ¬ bl.length = k := fun z => (of_decide_eq_false e) (sz'.mpr z)
      have ss := s10.trans s11
      refine ⟨_, _, _, vC2, _, _, _, _, rfl, ss _ _ hFx8, DxAll.same (same_hid ss) _ _ dfs8, Dx.same (same_hid s11) _ _ dC2, sFF.trans (.of ss), s4F.trans (same_hid ss), (P8.same ss).le (by omega), fs, cs, hch, k, bl, hk, by omega, by omega, ?_, rfl, ?_⟩
      · intro b hb
        obtain ⟨j, hj, rfl⟩ := List.mem_iff_getElem.mp hb
        exact hR j _ (List.getElem?_eq_getElem hj)
      · rw [if_neg e, List.append_nil, hbl]
  · rintro σ H ⟨fs, cs, xsF, vC, u4, u5, u6, u7, rfl, hFx, dfs, dcs, s1H, s4H, PH, hch⟩
    rw [hlen] at hch PH
    have oH := o.sb s1H PH.there
    have less : Same (hid (F :: Z) H) (hid Z H) := hid_less fun b hb => List.mem_cons_of_mem _ hb
    have dF : Dx K (hid Z H) (.ref F) (.list fs) := .lst (by rw [hid_out hFZ]; exact hFx) (DxAll.same less _ _ dfs)
    refine ret_ev (K := K) oH (ev_tup (eva_cons (ev_var (i := 2) rfl dF) (eva_cons (ev_var (i := 3) rfl (Dx.same less _ _ dcs)) eva_nil)) (line1000 (by simp))) fun v H2 s2 dv => ?_
    exact q _ v H2 ⟨r, fs, cs, hr2, hch, rfl⟩ (s1H.trans (.of s2)) ((PH.same s2).le (by omega)) dv
end
end K81
namespace K81
open PySem PySem.Spec PyProof.Rows L2

section
variable {P : Program} {w : World} {K : PySem.W.Frag} {mg : Str → Option Value} {base : Heap}
def strsOk (l : List PyData) : Prop := ∀ x ∈ l, ∃ s, x = .str s ∧ smallD x = true
theorem tup_leaf {l : List PyData} (hl : l.length ≤ 10) (h : ∀ x ∈ l, smallD x = true ∧ x.depth ≤ 0) : smallD (.tuple l) = true ∧ (PyData.tuple l).depth ≤ 1 :=
  ⟨of_small_tuple (by omega) fun x hx => (h x hx).1, depth_tuple.mpr fun x hx => (h x hx).2⟩
theorem plain_small {m : Int} {names calls : List PyData} {d : PyData} (hn : strsOk names) (hc : strsOk calls) (h : plainOk m names calls d) : smallD d = true ∧ d.depth ≤ 1 := by
  have hs : ∀ x ∈ names ++ [.str "w9"], smallD x = true ∧ x.depth ≤ 0 := fun x hx => by
    rcases List.mem_append.mp hx with hx | hx
    · obtain ⟨s, rfl, h2⟩ := hn x hx; exact ⟨h2, Nat.le_refl _⟩
    · rw [List.mem_singleton.mp hx]; exact ⟨by decide +kernel, Nat.le_refl _⟩
  have hcc : ∀ x ∈ calls, smallD x = true ∧ x.depth ≤ 0 := fun x hx => by
    obtain ⟨s, rfl, h2⟩ := hc x hx; exact ⟨h2, Nat.le_refl _⟩
  have hi : ∀ i : Int, smallD (.int i) = true ∧ (PyData.int i).depth ≤ 0 := fun i => ⟨rfl, Nat.le_refl _⟩
  obtain ⟨r0, r1, r2, r3, _, _, _, _, h⟩ := h
  have key : ∀ l : List PyData, d = .tuple l → l.length ≤ 10 → (∀ x ∈ l, smallD x = true ∧ x.depth ≤ 0) → smallD d = true ∧ d.depth ≤ 1 := fun l e h1 h2 => e ▸ tup_leaf h1 h2
  rcases h with ⟨k, hk, rfl⟩ | ⟨x, hx, rfl⟩ | rfl | rfl | rfl | ⟨k, hk, rfl⟩ | rfl | ⟨k, hk, rfl⟩ | ⟨x, hx, rfl⟩ | ⟨x, hx, rfl⟩ | rfl | ⟨x, hx, rfl⟩
  · exact key _ rfl (by simp) (by simp only [List.mem_cons, List.not_mem_nil, or_false, forall_eq_or_imp, forall_eq]; exact ⟨⟨by decide +kernel, by decide +kernel⟩, hi _, hi _⟩)
  · exact key _ rfl (by simp) (by simp only [List.mem_cons, List.not_mem_nil, or_false, forall_eq_or_imp, forall_eq]; exact ⟨⟨by decide +kernel, by decide +kernel⟩, hi _, hs _ hx⟩)
  · exact key _ rfl (by simp) (by simp only [List.mem_cons, List.not_mem_nil, or_false, forall_eq_or_imp, forall_eq]; exact ⟨⟨by decide +kernel, by decide +kernel⟩, hi _⟩)
  · exact key _ rfl (by simp) (by simp only [List.mem_cons, List.not_mem_nil, or_false, forall_eq_or_imp, forall_eq]; exact ⟨⟨by decide +kernel, by decide +kernel⟩, hi _⟩)
  · exact ⟨by decide +kernel, by decide +kernel⟩
  · exact key _ rfl (by simp) (by simp only [List.mem_cons, List.not_mem_nil, or_false, forall_eq_or_imp, forall_eq]; exact ⟨⟨by decide +kernel, by decide +kernel⟩, hi _, hi _⟩)
  · exact key _ rfl (by simp) (by simp only [List.mem_cons, List.not_mem_nil, or_false, forall_eq_or_imp, forall_eq]; exact ⟨⟨by decide +kernel, by decide +kernel⟩, hi _⟩)
  · exact key _ rfl (by simp) (by simp only [List.mem_cons, List.not_mem_nil, or_false, forall_eq_or_imp, forall_eq]; exact ⟨⟨by decide +kernel, by decide +kernel⟩, hi _, hi _⟩)
  · exact key _ rfl (by simp) (by simp only [List.mem_cons, List.not_mem_nil, or_false, forall_eq_or_imp, forall_eq]; exact ⟨hcc _ hx, hi _⟩)
  · refine key _ rfl (by simp) (by simp only [List.mem_cons, List.not_mem_nil, or_false, forall_eq_or_imp, forall_eq]; refine ⟨⟨?_, Nat.le_refl _⟩, hi _, hi _⟩; simp only [List.mem_cons, List.not_mem_nil, or_false] at hx; rcases hx with rfl | rfl | rfl | rfl | rfl | rfl | rfl <;> decide +kernel)
  · exact key _ rfl (by simp) (by simp only [List.mem_cons, List.not_mem_nil, or_false, forall_eq_or_imp, forall_eq]; exact ⟨⟨by decide +kernel, by decide +kernel⟩, hi _, hi _, hi _, hi _⟩)
  · refine key _ rfl (by simp) (by simp only [List.mem_cons, List.not_mem_nil, or_false, forall_eq_or_imp, forall_eq]; refine ⟨⟨?_, Nat.le_refl _⟩, hi _, hi _, hi _⟩; simp only [List.mem_cons, List.not_mem_nil, or_false] at hx; rcases hx with rfl | rfl | rfl | rfl | rfl | rfl | rfl | rfl | rfl | rfl | rfl <;> decide +kernel)
def spendD : PyData := .tuple [.str "spend"]
def toOk (fs : List PyData) (i size : Nat) (t : Int) : Prop := (∃ j : Nat, t = j ∧ j < i ∧ PyData.eqv (fs.getD j .none) spendD = true) ∨ ((i : Int) < t ∧ t ≤ size)
def deedOk (m : Int) (names calls fs : List PyData) (i size : Nat) (d : PyData) : Prop := ∃ (x : PyData) (one two t : Int), x ∈ names ++ [.str "z"] ∧ (0 ≤ one ∧ one < m) ∧ (0 ≤ two ∧ two < m) ∧ toOk fs i size t ∧
  (d = .tuple [.str "spend"] ∨ d = .tuple [.str "keep", x, .int one] ∨ d = .tuple [.str "ask", x] ∨ d = .tuple [.str "tell", .int one] ∨ d = .tuple [.str "put", .int one, .int two] ∨ d = .tuple [.str "unless", .int one, .int t] ∨
   d = .tuple [.str "go", .int t] ∨ plainOk m (names ++ [.str "z"]) calls d)
theorem toOk_app {fs gs : List PyData} {i size : Nat} {t : Int} (hi : i ≤ fs.length) (h : toOk fs i size t) : toOk (fs ++ gs) i size t := by
  rcases h with ⟨j, e, hj, h⟩ | h
  · refine .inl ⟨j, e, hj, ?_⟩
    rw [List.getD_eq_getElem?_getD, List.getElem?_append_left (by omega), ← List.getD_eq_getElem?_getD]; exact h
  · exact .inr h
theorem deedOk_app {m : Int} {names calls fs gs : List PyData} {i size : Nat} {d : PyData} (hi : i ≤ fs.length) (h : deedOk m names calls fs i size d) : deedOk m names calls (fs ++ gs) i size d := by
  obtain ⟨x, one, two, t, h1, h2, h3, h4, h5⟩ := h
  exact ⟨x, one, two, t, h1, h2, h3, toOk_app hi h4, h5⟩
theorem z_ok {l : List PyData} {s : Str} (h : strsOk l) (hz : smallD (.str s) = true) : strsOk (l ++ [.str s]) := fun x hx => by
  rcases List.mem_append.mp hx with hx | hx
  · exact h x hx
  · rw [List.mem_singleton.mp hx]; exact ⟨_, rfl, hz⟩
theorem deed_small {m : Int} {names calls fs : List PyData} {i size : Nat} {d : PyData} (hn : strsOk names) (hc : strsOk calls) (h : deedOk m names calls fs i size d) : smallD d = true ∧ d.depth ≤ 1 := by
  obtain ⟨x, one, two, t, hx, _, _, _, h⟩ := h
  have hx' : smallD x = true ∧ x.depth ≤ 0 := by
    obtain ⟨s, rfl, h2⟩ := z_ok hn (s := "z") (by decide +kernel) x hx; exact ⟨h2, Nat.le_refl _⟩
  have hi : ∀ i : Int, smallD (.int i) = true ∧ (PyData.int i).depth ≤ 0 := fun i => ⟨rfl, Nat.le_refl _⟩
  have key : ∀ l : List PyData, d = .tuple l → l.length ≤ 10 → (∀ x ∈ l, smallD x = true ∧ x.depth ≤ 0) → smallD d = true ∧ d.depth ≤ 1 := fun l e h1 h2 => e ▸ tup_leaf h1 h2
  rcases h with rfl | rfl | rfl | rfl | rfl | rfl | rfl | h
  · exact ⟨by decide +kernel, by decide +kernel⟩
  · exact key _ rfl (by simp) (by simp only [List.mem_cons, List.not_mem_nil, or_false, forall_eq_or_imp, forall_eq]; exact ⟨⟨by decide +kernel, by decide +kernel⟩, hx', hi _⟩)
  · exact key _ rfl (by simp) (by simp only [List.mem_cons, List.not_mem_nil, or_false, forall_eq_or_imp, forall_eq]; exact ⟨⟨by decide +kernel, by decide +kernel⟩, hx'⟩)
  · exact key _ rfl (by simp) (by simp only [List.mem_cons, List.not_mem_nil, or_false, forall_eq_or_imp, forall_eq]; exact ⟨⟨by decide +kernel, by decide +kernel⟩, hi _⟩)
  · exact key _ rfl (by simp) (by simp only [List.mem_cons, List.not_mem_nil, or_false, forall_eq_or_imp, forall_eq]; exact ⟨⟨by decide +kernel, by decide +kernel⟩, hi _, hi _⟩)
  · exact key _ rfl (by simp) (by simp only [List.mem_cons, List.not_mem_nil, or_false, forall_eq_or_imp, forall_eq]; exact ⟨⟨by decide +kernel, by decide +kernel⟩, hi _, hi _⟩)
  · exact key _ rfl (by simp) (by simp only [List.mem_cons, List.not_mem_nil, or_false, forall_eq_or_imp, forall_eq]; exact ⟨⟨by decide +kernel, by decide +kernel⟩, hi _⟩)
  · exact plain_small (z_ok hn (by decide +kernel)) hc h
/-- what _law_deed_rows gives -/
def deedsR (m : Int) (names calls : List PyData) (d : PyData) : Prop := ∃ (size : Nat) (fs : List PyData), size ≤ 23 ∧ fs.length = size ∧ d = .list fs ∧ ∀ i e, fs[i]? = some e → deedOk m names calls fs i size e
def N__law_deed_rows : List Str := ["_law_pen_here", "_law_many", "_law_names", "_law_calls", "_law_size", "_law_found", "_law_at", "_law_way", "_law_one", "_law_name", "_law_back", "_law_ahead", "_law_to", "_law_some", "_law_spot", "_law_row"]
theorem sc_deeds : FnScope N__law_deed_rows ["_law_pen_here", "_law_many", "_law_names", "_law_calls"] (defScope s__law_deed_rows) := ⟨rfl, rfl, rfl, by decide +kernel, rfl, by decide +kernel, by decide +kernel⟩
def spotP : PyData → Bool
  | .tuple [_, r] => PyData.eqv r spendD
  | _ => false
def spotOf : PyData → PyData
  | .tuple (x :: _) => x
  | _ => .none
theorem ok_deeds (A0 : At K mg "_law_deed_rows" s__law_deed_rows ["_law_pen_here", "_law_many", "_law_names", "_law_calls"]) (T : Tx w K mg) (D__law_draw : Df P w K mg base "_law_draw" 1 ["_law_pen_here", "_law_many"] (spDraw K)) (D__law_pick : Df P w K mg base "_law_pick" 2 ["_law_pen_here", "_law_some"] (spPick K))
    (D__law_plain : Df P w K mg base "_law_plain" 3 ["_law_pen_here", "_law_many", "_law_names", "_law_calls"] (sp_plain K)) :
    Df P w K mg base "_law_deed_rows" 4 ["_law_pen_here", "_law_many", "_law_names", "_law_calls"] (spI K 361 (fun ds => ∃ (m : Int) (names calls : List PyData), ds = [.int m, .list names, .list calls] ∧ 0 < m ∧ m < 1000 ∧ names.length ≤ 50 ∧ strsOk names ∧ calls.length ≤ 100 ∧ strsOk calls) (fun ds d => match ds with | [.int m, .list names, .list calls] => deedsR m names calls d | _ => False)) := by
  obtain ⟨f__law_draw, fd__law_draw, g__law_draw, kp__law_draw, b__law_draw, G__law_draw⟩ := D__law_draw
  obtain ⟨f__law_pick, fd__law_pick, g__law_pick, kp__law_pick, b__law_pick, G__law_pick⟩ := D__law_pick
  obtain ⟨f__law_plain, fd__law_plain, g__law_plain, kp__law_plain, b__law_plain, G__law_plain⟩ := D__law_plain
  refine df_i A0 sc_deeds ?_ (fun f cdv A outer s H E hr => ?_)
  · rintro ds ⟨m, _, _, rfl, _⟩; rfl
  have nd := sc_deeds.nd
  refine ⟨_, (pss_cons (ps_par (i := 4) (j := 5) (by rfl) nd rfl rfl (by decide) rfl rfl (pa_cons (pe_call G__law_draw (hr.mono (by decide)) (by rfl) g__law_draw kp__law_draw b__law_draw .nil pass0 (pa_cons (pv 0) (pa_cons pe_int pa_nil))) (pa_cons (pe_lst pa_nil) pa_nil)) (by rfl))
    (pss_cons (ps_for PassesOwn.never rfl (pi_range1 (by rfl) T.b_range (pa_cons (pv 4) pa_nil)) (pg_name (i := 6) nd rfl (Or.inl rfl)) (pss_cons (ps_par3 (i := 7) (j := 8) (l := 9) (by rfl) nd rfl rfl rfl (by decide) (by decide) (by decide) rfl rfl rfl (pa_cons (pe_call G__law_draw (hr.mono (by decide)) (by rfl) g__law_draw kp__law_draw b__law_draw .nil pass0 (pa_cons (pv 0) (pa_cons pe_int pa_nil))) (pa_cons (pe_call G__law_draw (hr.mono (by decide)) (by rfl) g__law_draw kp__law_draw b__law_draw .nil pass0 (pa_cons (pv 0) (pa_cons (pv 1) pa_nil))) (pa_cons (pe_call G__law_pick (hr.mono (by decide)) (by rfl) g__law_pick kp__law_pick b__law_pick .nil pass0 (pa_cons (pv 0) (pa_cons (pe_op op_cat (pv 2) (pe_lst (pa_cons pe_str pa_nil))) pa_nil))) pa_nil))) (by rfl))
    (pss_cons (ps_setLc (i := 10) (own := [("_law_spot", 14), ("_law_row", 15)]) rfl nd rfl rfl (sw_true rfl rfl rfl (by decide +kernel)) (pi_enum (by rfl) T.b_enumerate (pa_cons (pv 5) pa_nil)) (blkOk_by (N := N__law_deed_rows) (sc := defScope s__law_deed_rows) (by decide +kernel)) (fun _ _ _ _ _ => (pg_tupK (n := 2) K rfl rfl (pgs_cons (pg_name (i := 14) nd rfl (Or.inl rfl)) (pgs_cons (pg_name (i := 15) nd rfl (Or.inl rfl)) pgs_nil)))) (fun _ _ _ _ _ => (pts_one (pt_cmpR (r := rEqD K) (op_eqD hr.units) (pv 15) (pe_tup (pa_cons pe_str pa_nil)) (nomark _)))) (fun _ _ _ _ _ => (pv 14)))
    (pss_cons (ps_set (i := 11) nd rfl (Or.inl rfl) (pe_op op_add (pe_op op_add (pv 6) pe_int) (pe_call G__law_draw (hr.mono (by decide)) (by rfl) g__law_draw kp__law_draw b__law_draw .nil pass0 (pa_cons (pv 0) (pa_cons (pe_op op_sub (pv 4) (pv 6)) pa_nil)))))
    (pss_cons (ps_set (i := 12) nd rfl (Or.inl rfl) (pe_ifExp (PW.pt (pw_and (pt_cmpR (r := rNeD K) (op_neD hr.units) (pv 10) (pe_lst pa_nil) (nomark _)) (pw_and1 (pt_cmpR op_eq (pe_call G__law_draw (hr.mono (by decide)) (by rfl) g__law_draw kp__law_draw b__law_draw .nil pass0 (pa_cons (pv 0) (pa_cons pe_int pa_nil))) pe_int (nomark _))))) (pe_call G__law_pick (hr.mono (by decide)) (by rfl) g__law_pick kp__law_pick b__law_pick .nil pass0 (pa_cons (pv 0) (pa_cons (pv 10) pa_nil))) (pv 11)))
    (pss_cons (ps_set (i := 13) nd rfl (Or.inl rfl) (pe_lst (pa_cons (pe_tup (pa_cons pe_str pa_nil)) (pa_cons (pe_tup (pa_cons pe_str (pa_cons (pv 9) (pa_cons (pv 8) pa_nil)))) (pa_cons (pe_tup (pa_cons pe_str (pa_cons (pv 9) pa_nil))) (pa_cons (pe_tup (pa_cons pe_str (pa_cons (pv 8) pa_nil))) (pa_cons (pe_tup (pa_cons pe_str (pa_cons (pv 8) (pa_cons (pe_call G__law_draw (hr.mono (by decide)) (by rfl) g__law_draw kp__law_draw b__law_draw .nil pass0 (pa_cons (pv 0) (pa_cons (pv 1) pa_nil))) pa_nil)))) (pa_cons (pe_tup (pa_cons pe_str (pa_cons (pv 8) (pa_cons (pv 12) pa_nil)))) (pa_cons (pe_tup (pa_cons pe_str (pa_cons (pv 12) pa_nil))) pa_nil)))))))))
    (pss_one (ps_expr (pe_bm PySem.F.plainAttrs_list PySem.F.slot_list_append PySem.F.type_list_append mt_append (pv 5) (pa_cons (pe_ifExp (pt_cmpR op_lt (pv 7) pe_int (nomark _)) (pe_ix (r := rIx K) ix_seq (pv 13) (pv 7) (fun _ _ => rfl)) (pe_call G__law_plain (hr.mono (by decide)) (by rfl) g__law_plain kp__law_plain b__law_plain .nil pass0 (pa_cons (pv 0) (pa_cons (pv 1) (pa_cons (pe_op op_cat (pv 2) (pe_lst (pa_cons pe_str pa_nil))) (pa_cons (pv 3) pa_nil)))))) pa_nil))))))))))
    (pss_one (ps_ret (pv 5))))), fun Z G p n us ds hp hv hP hn => ?_⟩
  obtain ⟨m, names, calls, rfl, m0, m1, hnl, hns, hcl, hcs⟩ := hP
  obtain ⟨vm, vn, vc, rfl, dm, dn, dcl⟩ := all3 hv
  rw [dm.int_inv]
  show IS K Z p n (n + 361) _ _ G (deedsR m names calls)
  intro H1 s o P1 D q
  obtain ⟨scs, dpcs⟩ := strs_depth (cs := calls) hcs (by omega)
  refine (ie_drawK (i := 0) (m := 24) (σ := start N__law_deed_rows [.ref p, .int m, vn, vc]) (G := hid Z H1) hp rfl ev_int (by decide) (by decide) (by omega)) H1 (Same.refl _) o P1 _ fun d vs H2 r s2 P2 ds => ⟨by simp, fun F hF => ⟨vs, .ref F, rfl, ?_⟩⟩
  obtain ⟨sz, rfl, sz0, sz1⟩ := r
  obtain ⟨size, rfl⟩ : ∃ k : Nat, sz = k := ⟨sz.toNat, by omega⟩
  rw [ds.int_inv]
  have o2 := occ_step o s2 P2
  have hFp : F ≠ p := fun e => P2.there (e ▸ hF)
  have hF1 : H1 F = none := by
    cases qq : H1 F with
    | none => rfl
    | some u => rw [s2.1 _ _ hFp qq] at hF; cases hF
  have hFZ : F ∉ Z := o2.new hF
  have s13 : SB p H1 (upd H2 F (.lst [])) := s2.trans (.of (same_upd hF))
  have P3 := P2.same (same_upd (o := .lst []) hF)
  have hF3 : (upd H2 F (.lst [])) F = some (.lst []) := upd_same
  have sG3 : Same G (hid (F :: Z) (upd H2 F (.lst []))) := fun b u e => by
    have e2 := (s2.hid hp) _ _ (s _ _ e)
    obtain ⟨e3, e4⟩ := hid_some e2
    have hb : b ∉ F :: Z := fun z => (List.mem_cons.mp z).elim (fun z => by rw [z, hF] at e4; cases e4) e3
    rw [hid_out hb]; exact (same_upd hF) _ _ e4
  generalize upd H2 F (.lst []) = H3 at s13 P3 hF3 sG3
  have o3 : Occ (F :: Z) H3 := fun z hz => by
    rcases List.mem_cons.mp hz with e | e
    · rw [e, hF3]; simp
    · exact (o.sb s13 P3.there) z e
  have hp2 : p ∈ F :: Z := List.mem_cons_of_mem _ hp
  refine nx_of (seq_for (for_cps ?_))
  refine (iw_rngC (K := K) (Z := F :: Z) (p := p) (m := size) (eva_cons (ev_var (i := 4) rfl (.int _)) eva_nil) (by omega)) H3 (Same.refl _) o3 P3 _ fun items J H4 Gd Y ri s4 P4 W hG hY => ?_
  subst ri
  have s14 := s13.trans s4
  refine for_it W (fun i σ H => ∃ (fs : List PyData) (xsF : List V) (u6 u7 u8 u9 u10 u11 u12 u13 : Option V), σ = [some (.ref p), some (.int m), some vn, some vc, some (.int size), some (.ref F), u6, u7, u8, u9, u10, u11, u12, u13, none, none] ∧ H F = some (.lst xsF) ∧ DxAll K (hid (F :: Z) H) xsF fs ∧
    SB p H1 H ∧ Same (hid (F :: Z) H4) (hid (F :: Z) H) ∧ Pen K p (n + 1 + i * 15) H ∧ fs.length = i ∧ ∀ j e, fs[j]? = some e → deedOk m names calls fs j size e) ?_ (fun i σ H _ h => ?_) ?_ ?_
  · exact ⟨[], [], _, _, _, _, _, _, _, _, rfl, s4.1 _ _ hFp hF3, .nil, s14, Same.refl _, P4.le (by omega), rfl, fun j e z => by simp at z⟩
  · obtain ⟨_, _, _, _, _, _, _, _, _, _, _, _, _, _, sH, _⟩ := h
    exact hG H sH
  · rintro i x σ H H' hlt ⟨fs, xsF, u6, u7, u8, u9, u10, u11, u12, u13, rfl, hFx, dfs, s1H, s4H, PH, hfl, hfs⟩ y
    rw [rngD_length] at hlt
    obtain ⟨s', d, hd, dx⟩ := hY i H x H' (by rw [rngD_length]; exact hlt) s4H y
    have oH : Occ (F :: Z) H := fun z hz => by
      rcases List.mem_cons.mp hz with e | e
      · rw [e, hFx]; simp
      · exact (o.sb s1H PH.there) z e
    have dx := dx (F :: Z) s4H oH
    rw [rngD_get hlt, Int.zero_add] at hd
    cases hd
    rw [dx.int_inv]
    have s15 : SB p H1 H' := s1H.trans (.of s')
    replace s4H := s4H.trans (same_hid s')
    replace PH := PH.same s'
    replace oH := oH.same s'
    replace hFx := s' _ _ hFx
    replace dfs := DxAll.same (same_hid s') _ _ dfs
    have sGH := sG3.trans ((s4.hid hp2).trans s4H)
    have dnH := Dx.same sGH _ _ dn
    have dcH := Dx.same sGH _ _ dcl
    clear dx s' y
    -- way, one, name
    refine ia_par3C (K := K) (R3 := fun x y z => (∃ a : Nat, x = .int a ∧ a < 14) ∧ (∃ b : Int, y = .int b ∧ 0 ≤ b ∧ b < m) ∧ z ∈ names ++ [.str "z"]) oH PH (((ia_cons hp2 (ie_drawK hp2 rfl ev_int (by decide) (by decide) (by omega)) (ia_cons hp2 (ie_drawK hp2 rfl (ev_var rfl (.int m)) m0 (by omega) (by omega)) (ia_cons hp2 (ie_pickK hp2 rfl (ev_op (ev_var (i := 2) rfl dnH) (ev_lst (eva_cons ev_str eva_nil) (line1000 (by simp))) (rd_cat (by simp; omega))) (by simp) (by simp; omega) (by omega)) ia_nil)))).imp fun d h => ?_) fun x y z v7 v8 v9 H5 rr s5 P5 d7 d8 d9 => ?_
    · obtain ⟨_, _, rfl, ⟨a, rfl, a0, a1⟩, _, _, rfl, hb, z, _, rfl, hz, rfl⟩ := h
      exact ⟨_, _, _, rfl, ⟨a.toNat, by rw [Int.toNat_of_nonneg a0], by omega⟩, hb, hz⟩
    obtain ⟨⟨way, rfl, hway⟩, ⟨one, rfl, one0, one1⟩, hz⟩ := rr
    rw [d7.int_inv, d8.int_inv]
    have oH5 := occ_step oH s5 P5
    replace s15 := s15.trans s5
    replace s4H := s4H.trans (s5.hid hp2)
    replace hFx := s5.1 _ _ hFp hFx
    replace dfs := DxAll.same (s5.hid hp2) _ _ dfs
    replace dcH := Dx.same (s5.hid hp2) _ _ dcH
    replace dnH := Dx.same (s5.hid hp2) _ _ dnH
    clear s5 d7 d8
    -- back: found is looked at
    have less5 : Same (hid (F :: Z) H5) (hid Z H5) := hid_less fun b hb => List.mem_cons_of_mem _ hb
    have dF5 : Dx K (hid Z H5) (.ref F) (.list fs) := .lst (by rw [hid_out hFZ]; exact hFx) (DxAll.same less5 _ _ dfs)
    have oZ5 : Occ Z H5 := fun z hz => oH5 z (List.mem_cons_of_mem _ hz)
    refine set_cps (lcf_cps (K := K) (Z := Z) (G := hid Z H5) (items := enumD fs) (p := spotP) (f := spotOf) (evi_enumL (eva_cons (ev_var (i := 5) rfl dF5) eva_nil)) (by rw [enumD_length]; exact line1000 (by omega)) (fun Z' j d G' hj sG => ?_) H5 (Same.refl _) oZ5 _ fun B xsB H6 hB s6 hB6 dB => ?_)
    · obtain ⟨e, rfl, he⟩ := enum_mem hj
      obtain ⟨h1, h2⟩ := deed_small hns hcs (hfs j e he)
      exact eg_two fun v1 v2 G2 s2 d1 d2 => ⟨rfl, an_test (K := K) (ev_op (ev_var rfl d2) (ev_tup (eva_cons ev_str eva_nil) (line1000 (by simp))) (rd_eqD (shaped_small h1 (by omega)) (by decide +kernel))), fun _ => ev_var rfl d1⟩
    have hbk : ∀ b ∈ ((enumD fs).filter spotP).map spotOf, ∃ j : Nat, b = .int j ∧ j < i ∧ PyData.eqv (fs.getD j .none) spendD = true := fun b hb => by
      obtain ⟨e, he, rfl⟩ := List.mem_map.mp hb
      obtain ⟨he, hp⟩ := List.mem_filter.mp he
      obtain ⟨j, hj⟩ := List.mem_iff_getElem?.mp he
      obtain ⟨r, rfl, hr⟩ := enum_mem hj
      have hjl := (List.getElem?_eq_some_iff.mp hr).1
      refine ⟨j, rfl, by omega, ?_⟩
      rw [List.getD_eq_getElem?_getD, hr]; exact hp
    have hbl : (((enumD fs).filter spotP).map spotOf).length ≤ 23 := by
      rw [List.length_map]
      exact Nat.le_trans (List.length_filter_le _ _) (by rw [enumD_length]; omega)
    generalize ((enumD fs).filter spotP).map spotOf = back at dB hbk hbl
    have hBF : B ≠ F := fun e => by rw [e, hFx] at hB; cases hB
    have hBZ : B ∉ F :: Z := fun z => (List.mem_cons.mp z).elim hBF fun z => oZ5 B z hB
    have d10 : Dx K (hid (F :: Z) H6) (.ref B) (.list back) := .lst (by rw [hid_out hBZ]; exact hB6) (ints_dx (fun b hb => (hbk b hb).elim fun j h => ⟨j, h.1⟩) dB)
    have sbk : smallD (.list back) = true ∧ (PyData.list back).depth ≤ 1 := ⟨of_small_list (by omega) fun b hb => by obtain ⟨j, rfl, _⟩ := hbk b hb; rfl, depth_list.mpr fun b hb => by obtain ⟨j, rfl, _⟩ := hbk b hb; exact Nat.le_refl _⟩
    have oH6 := oH5.same s6
    replace s15 := s15.trans (.of s6)
    replace s4H := s4H.trans (same_hid s6)
    replace hFx := s6 _ _ hFx
    replace dfs := DxAll.same (same_hid s6) _ _ dfs
    replace dcH := Dx.same (same_hid s6) _ _ dcH
    replace dnH := Dx.same (same_hid s6) _ _ dnH
    replace d9 := Dx.same (same_hid s6) _ _ d9
    have P6 := P5.same s6
    clear s6 dB hB hB6 dF5 less5 oZ5
    -- ahead
    refine ie_setC (K := K) oH6 P6 (((ie_op (f := fun x y => .int (intOf x + intOf y)) hp2 (ie_ev (ev_op (ev_var rfl (.int (i : Nat))) ev_int (rd_i0 fun _ => .int _))) (ie_drawK hp2 rfl (ev_op (ev_var rfl (.int (size : Nat))) (ev_var rfl (.int (i : Nat))) (rd_i0 fun _ => .int _)) (by omega) (by omega) (by omega)) (fun x y hx hy => by
      obtain ⟨r, rfl, _⟩ := hy
      rw [hx]
      exact rd_i0 fun _ => .int _))).imp fun d h => (?_ : ∃ t : Int, d = .int t ∧ (i : Int) < t ∧ t ≤ size)) fun d v11 H7 rr s7 P7 d11 => ?_
    · obtain ⟨_, _, rfl, ⟨r, rfl, r0, r1⟩, rfl⟩ := h
      refine ⟨_, rfl, ?_, ?_⟩
      · show (i : Int) < (i : Int) + 1 + r; omega
      · show (i : Int) + 1 + r ≤ size; omega
    obtain ⟨ah, rfl, ah0, ah1⟩ := rr
    have oH7 := occ_step oH6 s7 P7
    replace s15 := s15.trans s7
    replace s4H := s4H.trans (s7.hid hp2)
    replace hFx := s7.1 _ _ hFp hFx
    replace dfs := DxAll.same (s7.hid hp2) _ _ dfs
    replace dcH := Dx.same (s7.hid hp2) _ _ dcH
    replace dnH := Dx.same (s7.hid hp2) _ _ dnH
    replace d9 := Dx.same (s7.hid hp2) _ _ d9
    replace d10 := Dx.same (s7.hid hp2) _ _ d10
    clear s7
    -- to
    refine ie_setC (K := K) oH7 P7 (ie_if (R := fun d => ∃ t : Int, d = .int t ∧ toOk fs i size t) (n2 := n + 1 + i * 15 + 6) hp2 ((in_and (b := !PyData.eqv (.list back) (.list [])) hp2 (an_test (ev_op (ev_var (i := 10) rfl d10) (ev_lst eva_nil (by decide +kernel)) (rd_neD (shaped_small sbk.1 (by omega)) (by decide +kernel)))) (fun _ => in_test ((ie_op (f := fun x y => .bool (decide (intOf x = intOf y))) hp2 (ie_drawK hp2 rfl ev_int (by decide) (by decide) (by omega)) (ie_ev ev_int) (fun x y hx hy => by
        obtain ⟨r, rfl, _⟩ := hx
        rw [hy]
        exact rd_eqI)).imp fun d h => by
        obtain ⟨_, _, _, _, rfl⟩ := h
        exact ⟨_, rfl⟩)) (by omega))) (fun hb => ?_) fun _ => ?_) fun d v12 H8 rr s8 P8 d12 => ?_
    · have hb := hb rfl
      refine ((ie_pickK hp2 rfl (ev_var (i := 10) rfl d10) (fun z => by rw [z] at hb; simp [PyData.eqv, PyData.eqvAll] at hb) (by omega) (by omega)).imp fun d h => ?_).le (by omega)
      obtain ⟨j, rfl, h1, h2⟩ := hbk d h
      exact ⟨j, rfl, .inl ⟨j, rfl, h1, h2⟩⟩
    · exact ((ie_ev (ev_var (i := 11) rfl d11)).imp fun d h => ⟨ah, h, .inr ⟨ah0, ah1⟩⟩).le (by omega)
    obtain ⟨t, rfl, ht⟩ := rr
    rw [d12.int_inv]
    have oH8 := occ_step oH7 s8 P8
    replace s15 := s15.trans s8
    replace s4H := s4H.trans (s8.hid hp2)
    replace hFx := s8.1 _ _ hFp hFx
    replace dfs := DxAll.same (s8.hid hp2) _ _ dfs
    replace dcH := Dx.same (s8.hid hp2) _ _ dcH
    replace dnH := Dx.same (s8.hid hp2) _ _ dnH
    replace d9 := Dx.same (s8.hid hp2) _ _ d9
    clear s8 d10 d11 d12
    -- some
    have e1 : ∀ {k : Nat} {i2 : Int} {σ : L2.St}, σ[k]? = some (some (.int i2)) → Ev K (F :: Z) (tVar k) σ (hid (F :: Z) H8) (.int i2) := fun e => ev_var e (.int _)
    refine ie_setC (K := K) oH8 P8 ((ie_lst hp2 (ia_cons hp2 (ie_ev (ev_tup (eva_cons ev_str eva_nil) (line1000 (by simp)))) (ia_cons hp2 (ie_ev (ev_tup (eva_cons ev_str (eva_cons (ev_var (i := 9) rfl d9) (eva_cons (e1 rfl) eva_nil))) (line1000 (by simp)))) (ia_cons hp2 (ie_ev (ev_tup (eva_cons ev_str (eva_cons (ev_var (i := 9) rfl d9) eva_nil)) (line1000 (by simp)))) (ia_cons hp2 (ie_ev (ev_tup (eva_cons ev_str (eva_cons (e1 rfl) eva_nil)) (line1000 (by simp))))
      (ia_cons hp2 (ie_tup hp2 (ia_cons hp2 (ie_ev ev_str) (ia_cons hp2 (ie_ev (e1 rfl)) (ia_cons hp2 (ie_drawK hp2 rfl (e1 rfl) m0 (by omega) (by omega)) ia_nil))) (by rintro _ ⟨_, _, rfl, _, _, _, rfl, _, _, _, rfl, _, rfl⟩; simp)) (ia_cons hp2 (ie_ev (ev_tup (eva_cons ev_str (eva_cons (e1 rfl) (eva_cons (e1 rfl) eva_nil))) (line1000 (by simp)))) (ia_cons hp2 (ie_ev (ev_tup (eva_cons ev_str (eva_cons (e1 rfl) eva_nil)) (line1000 (by simp)))) ia_nil))))))) (by rintro _ ⟨_, _, rfl, _, _, _, rfl, _, _, _, rfl, _, _, _, rfl, _, _, _, rfl, _, _, _, rfl, _, _, _, rfl, _, rfl⟩; simp)).imp fun d h =>
      (?_ : ∃ two : Int, (0 ≤ two ∧ two < m) ∧ d = .list [.tuple [.str "spend"], .tuple [.str "keep", z, .int one], .tuple [.str "ask", z], .tuple [.str "tell", .int one], .tuple [.str "put", .int one, .int two], .tuple [.str "unless", .int one, .int t], .tuple [.str "go", .int t]])) fun d v13 H9 rr s9 P9 d13 => ?_
    · obtain ⟨_, rfl, _, _, rfl, rfl, _, _, rfl, rfl, _, _, rfl, rfl, _, _, rfl, rfl, _, _, rfl, ⟨_, rfl, _, _, rfl, rfl, _, _, rfl, rfl, _, _, rfl, ⟨two, rfl, h2⟩, rfl⟩, _, _, rfl, rfl, _, _, rfl, rfl, rfl⟩ := h
      exact ⟨two, h2, rfl⟩
    obtain ⟨two, htwo, rfl⟩ := rr
    have oH9 := occ_step oH8 s9 P9
    replace s15 := s15.trans s9
    replace s4H := s4H.trans (s9.hid hp2)
    replace hFx := s9.1 _ _ hFp hFx
    replace dfs := DxAll.same (s9.hid hp2) _ _ dfs
    replace dcH := Dx.same (s9.hid hp2) _ _ dcH
    replace dnH := Dx.same (s9.hid hp2) _ _ dnH
    clear s9 d9 e1
    -- append
    refine app_endI (K := K) (R := fun d => deedOk m names calls fs i size d) (i := 5) rfl hFp hFx (by rw [dfs.length]; omega) oH9 P9 (ie_if (n2 := n + 1 + i * 15 + 15) hp2 (in_an (b := decide ((way : Int) < 7)) (an_test (K := K) (ev_op (ev_var (i := 7) rfl (.int (way : Nat))) ev_int (rd_i0 fun _ => .bl _)))) (fun hb => ?_) fun hb => ?_) fun d v H10 hd s10 P10 dv => ?_
    · have hb : (way : Int) < 7 := of_decide_eq_true hb.symm
      have hw : way < 7 := by omega
      generalize hL : [PyData.tuple [.str "spend"], .tuple [.str "keep", z, .int one], .tuple [.str "ask", z], .tuple [.str "tell", .int one], .tuple [.str "put", .int one, .int two], .tuple [.str "unless", .int one, .int t], .tuple [.str "go", .int t]] = L at d13
      have hLl : L.length = 7 := by rw [← hL]; rfl
      refine ((ie_ev (ev_op (ev_var (i := 13) rfl d13) (ev_var (i := 7) rfl (.int (way : Nat))) (rd_ixSL (d := L[way]'(by omega)) (atI_nat (List.getElem?_eq_getElem (by omega)))))).imp fun d e => ?_).le (by omega)
      have hm : d ∈ L := e ▸ List.getElem_mem _
      rw [← hL] at hm
      simp only [List.mem_cons, List.not_mem_nil, or_false] at hm
      refine ⟨z, one, two, t, hz, ⟨one0, one1⟩, htwo, ht, ?_⟩
      rcases hm with h | h | h | h | h | h | h
      · exact .inl h
      · exact .inr (.inl h)
      · exact .inr (.inr (.inl h))
      · exact .inr (.inr (.inr (.inl h)))
      · exact .inr (.inr (.inr (.inr (.inl h))))
      · exact .inr (.inr (.inr (.inr (.inr (.inl h)))))
      · exact .inr (.inr (.inr (.inr (.inr (.inr (.inl h))))))
    · refine ((ie_call hp2 rfl (ia_ev (ds := [.int m, .list (names ++ [.str "z"]), .list calls]) (eva_cons (ev_var (i := 1) rfl (.int m)) (eva_cons (ev_op (ev_var (i := 2) rfl dnH) (ev_lst (eva_cons ev_str eva_nil) (line1000 (by simp))) (rd_cat (by simp; omega))) (eva_cons (ev_var (i := 3) rfl dcH) eva_nil)))) (fun ds e => ⟨m, _, calls, e, m0, m1, by simp; omega, hcl, scs, dpcs⟩) (by omega)).imp fun d h => ?_).le (by omega)
      obtain ⟨ds, rfl, h⟩ := h
      exact ⟨z, one, two, t, hz, ⟨one0, one1⟩, htwo, ht, .inr (.inr (.inr (.inr (.inr (.inr (.inr h))))))⟩
    have hFx10 := s10.1 _ _ hFp hFx
    have keepF : Same (hid (F :: Z) H10) (hid (F :: Z) (upd H10 F (.lst (xsF ++ [v])))) := same_but fun b u hb e => by
      rw [upd_ne fun z => hb (by rw [z]; exact List.mem_cons_self)]; exact e
    have s110 := s15.trans s10
    have sFF : SB p H1 (upd H10 F (.lst (xsF ++ [v]))) := ⟨fun b u nb e => by
      rw [upd_ne (ne_of_none e hF1)]
      exact s110.1 _ _ nb e, fun a b c e => by
      rw [upd_ne hFp.symm]
      exact s110.2 a b c e⟩
    refine ⟨fs ++ [d], xsF ++ [v], _, _, _, _, _, _, _, _, rfl, upd_same, (DxAll.same ((s10.hid hp2).trans keepF) _ _ dfs).snoc (Dx.same keepF _ _ dv), sFF, s4H.trans ((s10.hid hp2).trans keepF), pen_after P1 sFF (by rw [upd_ne hFp.symm]) (P10.le (by omega)), by rw [List.length_append, hfl]; rfl, fun j e he => ?_⟩
    by_cases hj : j < fs.length
    · rw [List.getElem?_append_left hj] at he
      exact deedOk_app (by omega) (hfs j e he)
    · have hjl := (List.getElem?_eq_some_iff.mp he).1
      rw [List.length_append, List.length_singleton] at hjl
      obtain rfl : j = fs.length := by omega
      rw [List.getElem?_append_right (Nat.le_refl _), Nat.sub_self] at he
      cases he
      rw [← hfl] at hd
      exact deedOk_app (Nat.le_refl _) hd
  · rintro σ H ⟨fs, xsF, u6, u7, u8, u9, u10, u11, u12, u13, rfl, hFx, dfs, s1H, s4H, PH, hfl, hfs⟩
    rw [rngD_length] at hfl PH
    have oH := o.sb s1H PH.there
    have less : Same (hid (F :: Z) H) (hid Z H) := hid_less fun b hb => List.mem_cons_of_mem _ hb
    have dF : Dx K (hid Z H) (.ref F) (.list fs) := .lst (by rw [hid_out hFZ]; exact hFx) (DxAll.same less _ _ dfs)
    refine ret_ev (K := K) oH (ev_var (i := 5) rfl dF) fun v H2 s2 dv => ?_
    exact q _ v H2 ⟨size, fs, by omega, hfl, rfl, hfs⟩ (s1H.trans (.of s2)) ((PH.same s2).le (by omega)) dv
end
end K81
namespace K81
open PySem PySem.Spec PyProof.Rows L2

section
variable {P : Program} {w : World} {K : PySem.W.Frag} {mg : Str → Option Value} {base : Heap}
def N__law_pen : List Str := ["_law_script", "_law_cell"]
theorem sc_pen : FnScope N__law_pen ["_law_script"] (defScope s__law_pen) := ⟨rfl, rfl, rfl, by decide +kernel, rfl, by decide +kernel, by decide +kernel⟩
theorem ok_pen (A0 : At K mg "_law_pen" s__law_pen ["_law_script"]) (T : Tx w K mg) : Df P w K mg base "_law_pen" 1 ["_law_script"] (spPen K) := by
  obtain ⟨f, fd, g, F, b⟩ := A0.ex
  refine ⟨f, fd, g, F.kp, b, F.ok sc_pen (fun vs H Q E h => ?_) (fun cdv A outer s H vs Q E hr h => ?_)⟩
  · obtain ⟨a, ns, rfl, _⟩ := h; rfl
  have nd := sc_pen.nd
  refine ⟨_, (pss_one (ps_ret (pe_lst (pa_cons (pe_lc (own := [("_law_cell", 1)]) rfl nd (pi_list (pe_slice sl_list (pv 0) po_none (po_some pe_int))) (blkOk_by (N := N__law_pen) (sc := defScope s__law_pen) (by decide +kernel)) (fun _ _ _ _ _ => (pg_name (i := 1) nd rfl (Or.inl rfl))) (fun _ _ _ _ _ => pts_nil) (fun _ _ _ _ _ => (pe_callTy call_int1 (by rfl) T.b_int boot_int (pa_cons (pv 1) pa_nil)))) (pa_cons pe_int (pa_cons pe_int pa_nil)))))), ?_⟩
  obtain ⟨a, ns, rfl, hs, q⟩ := h
  have hl : ((ns.take 60).map PyData.int).length ≤ 60 := by rw [List.length_map, List.length_take]; omega
  refine ret_lstC (K := K) (Z := []) (ds := [.list ((ns.take 60).map PyData.int), .int 0, .int 0]) Occ.nil (eva_cons ((ev_lc (items := (ns.take 60).map PyData.int) (f := fun d => d) (evi_list (ev_slSq (i := 0) (k := 60) rfl (by rw [hid_nil]; exact hs) ev_int)) (by exact line1000 (by omega)) fun Z' j d G' hj sG => ?_).to (by rw [List.map_id'])) (eva_cons ev_int (eva_cons ev_int eva_nil))) (by simp) fun vs H2 p s2 dvs hp => ?_
  · obtain ⟨i, _, rfl⟩ := List.mem_map.mp (List.mem_of_getElem? hj)
    exact eg_name fun u G2 s2 du => ⟨rfl, ev_cb (eva_cons (ev_var rfl du) eva_nil) rc_int⟩
  obtain ⟨v, v2, v3, rfl, dv, d2, d3⟩ := all3 dvs
  rw [hid_nil] at dv
  rw [d2.int_inv, d3.int_inv]
  refine q p _ ?_ (s2.trans (same_upd hp)) ⟨ns.take 60, 0, 0, ⟨v, upd_same, ?_⟩, by rw [List.length_take]; omega, Int.le_refl _, Int.le_refl _, Int.le_refl _⟩
  · cases qq : H p with
    | none => rfl
    | some u => rw [s2 _ _ qq] at hp; cases hp
  · refine Dx.same (fun b u e => ?_) _ _ dv
    rw [hid_out fun z => ne_of_none e hp (List.mem_singleton.mp z), upd_ne (ne_of_none e hp)]
    exact e

def fAt (d : PyData) : PyData := .tuple [.str ((Str.empty ++ ("f" : Str)) ++ (toString (intOf d) : Str)), .list [], .list [.list []]]
theorem ev_fAt {Z : List Addr} {σ : L2.St} {G : Hp} {i n : Nat} (hn : n < 10) {vs : List Nat} (hw : ∀ u, wipe ((wipe σ vs).set i (some u)) vs = wipe σ vs) (hi : ∀ u, ((wipe σ vs).set i (some u))[i]? = some (some u)) : Ev K Z (tLc (iRng1 (tCons (tC (.int n)) tNil)) (gName i) tYes
    (tTup (tCons (fun σ H Q => tJs [tC (.str "f"), tFmt (tVar i)] Str.empty σ H fun out H1 => Q (.str out) H1) (tCons (tLst tNil) (tCons (tLst (tCons (tLst tNil) tNil)) tNil)))) vs) σ G (.list ((rngD 0 n).map fAt)) := by
  refine ev_lc (items := rngD 0 n) (f := fAt) (evi_rng1 (n := n) (eva_cons ev_int eva_nil) (by omega) (by omega)) (by rw [rngD_length]; exact line1000 (by omega)) fun Z' j d G' hj sG => eg_name fun u G2 s2 du => ⟨hw u, ?_⟩
  have hj' := (List.getElem?_eq_some_iff.mp hj).1
  rw [rngD_length] at hj'
  rw [rngD_get hj', Int.zero_add] at hj
  cases hj
  have hl : (toString ((j : Nat) : Int) : Str).length ≤ 5 := by
    have h : ∀ k : Fin 10, (toString (((k : Nat) : Nat) : Int) : Str).length ≤ 5 := by decide +kernel
    exact h ⟨j, by omega⟩
  refine ev_tup (eva_cons (ev_join (evj_cons ev_str (by decide +kernel) (evj_cons (ev_fmtI (ev_var (hi u) du) (toStr_log (by omega))) ?_ evj_nil))) (eva_cons (ev_lst eva_nil (by decide +kernel)) (eva_cons (ev_lst (eva_cons (ev_lst eva_nil (by decide +kernel)) eva_nil) (line1000 (by simp))) eva_nil))) (line1000 (by simp))
  refine line1000 ?_
  simp only [Str.length_append]
  have h1 : (Str.empty).length = 0 := by decide
  have h2 : ("f" : Str).length = 1 := by decide
  omega
def badF0 : List PyData := [.none, .str "f", .list [.tuple [.str "f", .list [.str "a"], .list [.list []]], .tuple [.str "f", .list [], .list [.list []]]], .list [.tuple [.str "f", .list [.str "a", .str "a"], .list [.list []]]], .list [.tuple [.str "f", .list [.str "a"], .list []]], .list [.tuple [.str "f", .list [.str "a"]]], .list [.tuple [.str "F", .list [], .list [.list []]]]]
def badF1 : List PyData := badF0 ++ [.list [.tuple [.str "f", .list [.str "a"], .list [.list [.tuple [.str "keep", .str "a", .int 0]]]]], .list [.tuple [.str "f", .list [.str "a"], .list [.list [.tuple [.str "call f 0", .int 0]]]]], .list [.tuple [.str "f", .list [], .list [.list [.tuple [.str "call g 0", .int 0]]]], .tuple [.str "g", .list [], .list [.list []]]]]
def badF2 : List PyData := badF1 ++ [.list [.tuple [.str "f", .list [.str "a", .str "b"], .list [.list []]], .tuple [.str "g", .list [], .list [.list [.tuple [.str "loop f 0", .int 0]]]]], .list [.tuple [.str "f", .list [], .list [.list []]], .tuple [.str "g", .list [], .list [.list [.tuple [.str "loop f 0", .int 0]]]]]]
def badF3 : List PyData := badF2 ++ [.list [.tuple [.str "f", .list [], .list [.list []]], .tuple [.str "g", .list [], .list [.list [.tuple [.str "call f 1", .int 0]]]]], .list ((rngD 0 9).map fAt), .list [.tuple [.str "f", .list [], .list (List.replicate 7 [.list []]).flatten]]]
def badF4 : List PyData := badF3 ++ [.list [.tuple [.str "f", .list [.str "a", .str "b", .str "c", .str "d", .str "e", .str "g", .str "h"], .list [.list []]]], .list [.tuple [.str "true", .list [], .list [.list []]]], .list [.tuple [.str "f", .list [], .list [.none]]], .list [.tuple [.str "f", .str "a", .list [.list []]]], .list [.tuple [.str "f", .list [], .list [.list [.tuple [.str "go", .int 1]]]]]]
def N__law_bad_functions : List Str := ["_law_pen_here", "_law_some", "_law_at"]
theorem sc_badF : FnScope N__law_bad_functions ["_law_pen_here"] (defScope s__law_bad_functions) := ⟨rfl, rfl, rfl, by decide +kernel, rfl, by decide +kernel, by decide +kernel⟩
theorem ok_badF (A0 : At K mg "_law_bad_functions" s__law_bad_functions ["_law_pen_here"]) (T : Tx w K mg) (D__law_pick : Df P w K mg base "_law_pick" 2 ["_law_pen_here", "_law_some"] (spPick K)) :
    Df P w K mg base "_law_bad_functions" 3 ["_law_pen_here"] (spI K 1 (fun ds => ds = []) (fun _ d => d ∈ badF4)) := by
  obtain ⟨f__law_pick, fd__law_pick, g__law_pick, kp__law_pick, b__law_pick, G__law_pick⟩ := D__law_pick
  refine df_i A0 sc_badF ?_ (fun f cdv A outer s H E hr => ?_)
  · rintro ds rfl; rfl
  have nd := sc_badF.nd
  refine ⟨_, (pss_cons (ps_set (i := 1) nd rfl (Or.inl rfl) (pe_lst (pa_cons pe_non (pa_cons pe_str (pa_cons (pe_lst (pa_cons (pe_tup (pa_cons pe_str (pa_cons (pe_lst (pa_cons pe_str pa_nil)) (pa_cons (pe_lst (pa_cons (pe_lst pa_nil) pa_nil)) pa_nil)))) (pa_cons (pe_tup (pa_cons pe_str (pa_cons (pe_lst pa_nil) (pa_cons (pe_lst (pa_cons (pe_lst pa_nil) pa_nil)) pa_nil)))) pa_nil))) (pa_cons (pe_lst (pa_cons (pe_tup (pa_cons pe_str (pa_cons (pe_lst (pa_cons pe_str (pa_cons pe_str pa_nil))) (pa_cons (pe_lst (pa_cons (pe_lst pa_nil) pa_nil)) pa_nil)))) pa_nil)) (pa_cons (pe_lst (pa_cons (pe_tup (pa_cons pe_str (pa_cons (pe_lst (pa_cons pe_str pa_nil)) (pa_cons (pe_lst pa_nil) pa_nil)))) pa_nil)) (pa_cons (pe_lst (pa_cons (pe_tup (pa_cons pe_str (pa_cons (pe_lst (pa_cons pe_str pa_nil)) pa_nil))) pa_nil)) (pa_cons (pe_lst (pa_cons (pe_tup (pa_cons pe_str (pa_cons (pe_lst pa_nil) (pa_cons (pe_lst (pa_cons (pe_lst pa_nil) pa_nil)) pa_nil)))) pa_nil)) pa_nil)))))))))
    (pss_cons (ps_set (i := 1) nd rfl (Or.inl rfl) (pe_op op_cat (pv 1) (pe_lst (pa_cons (pe_lst (pa_cons (pe_tup (pa_cons pe_str (pa_cons (pe_lst (pa_cons pe_str pa_nil)) (pa_cons (pe_lst (pa_cons (pe_lst (pa_cons (pe_tup (pa_cons pe_str (pa_cons pe_str (pa_cons pe_int pa_nil)))) pa_nil)) pa_nil)) pa_nil)))) pa_nil)) (pa_cons (pe_lst (pa_cons (pe_tup (pa_cons pe_str (pa_cons (pe_lst (pa_cons pe_str pa_nil)) (pa_cons (pe_lst (pa_cons (pe_lst (pa_cons (pe_tup (pa_cons pe_str (pa_cons pe_int pa_nil))) pa_nil)) pa_nil)) pa_nil)))) pa_nil)) (pa_cons (pe_lst (pa_cons (pe_tup (pa_cons pe_str (pa_cons (pe_lst pa_nil) (pa_cons (pe_lst (pa_cons (pe_lst (pa_cons (pe_tup (pa_cons pe_str (pa_cons pe_int pa_nil))) pa_nil)) pa_nil)) pa_nil)))) (pa_cons (pe_tup (pa_cons pe_str (pa_cons (pe_lst pa_nil) (pa_cons (pe_lst (pa_cons (pe_lst pa_nil) pa_nil)) pa_nil)))) pa_nil))) pa_nil))))))
    (pss_cons (ps_set (i := 1) nd rfl (Or.inl rfl) (pe_op op_cat (pv 1) (pe_lst (pa_cons (pe_lst (pa_cons (pe_tup (pa_cons pe_str (pa_cons (pe_lst (pa_cons pe_str (pa_cons pe_str pa_nil))) (pa_cons (pe_lst (pa_cons (pe_lst pa_nil) pa_nil)) pa_nil)))) (pa_cons (pe_tup (pa_cons pe_str (pa_cons (pe_lst pa_nil) (pa_cons (pe_lst (pa_cons (pe_lst (pa_cons (pe_tup (pa_cons pe_str (pa_cons pe_int pa_nil))) pa_nil)) pa_nil)) pa_nil)))) pa_nil))) (pa_cons (pe_lst (pa_cons (pe_tup (pa_cons pe_str (pa_cons (pe_lst pa_nil) (pa_cons (pe_lst (pa_cons (pe_lst pa_nil) pa_nil)) pa_nil)))) (pa_cons (pe_tup (pa_cons pe_str (pa_cons (pe_lst pa_nil) (pa_cons (pe_lst (pa_cons (pe_lst (pa_cons (pe_tup (pa_cons pe_str (pa_cons pe_int pa_nil))) pa_nil)) pa_nil)) pa_nil)))) pa_nil))) pa_nil)))))
    (pss_cons (ps_set (i := 1) nd rfl (Or.inl rfl) (pe_op op_cat (pv 1) (pe_lst (pa_cons (pe_lst (pa_cons (pe_tup (pa_cons pe_str (pa_cons (pe_lst pa_nil) (pa_cons (pe_lst (pa_cons (pe_lst pa_nil) pa_nil)) pa_nil)))) (pa_cons (pe_tup (pa_cons pe_str (pa_cons (pe_lst pa_nil) (pa_cons (pe_lst (pa_cons (pe_lst (pa_cons (pe_tup (pa_cons pe_str (pa_cons pe_int pa_nil))) pa_nil)) pa_nil)) pa_nil)))) pa_nil))) (pa_cons (pe_lc (own := [("_law_at", 2)]) rfl nd (pi_range1 (by rfl) T.b_range (pa_cons pe_int pa_nil)) (blkOk_by (N := N__law_bad_functions) (sc := defScope s__law_bad_functions) (by decide +kernel)) (fun _ _ _ _ _ => (pg_name (i := 2) nd rfl (Or.inl rfl))) (fun _ _ _ _ _ => pts_nil) (fun _ _ _ _ _ => (pe_tup (pa_cons (pe_joined (.cons pe_str (.cons (pe_fmt (pv 2)) .nil))) (pa_cons (pe_lst pa_nil) (pa_cons (pe_lst (pa_cons (pe_lst pa_nil) pa_nil)) pa_nil)))))) (pa_cons (pe_lst (pa_cons (pe_tup (pa_cons pe_str (pa_cons (pe_lst pa_nil) (pa_cons (pe_op op_rep (pe_lst (pa_cons (pe_lst pa_nil) pa_nil)) pe_int) pa_nil)))) pa_nil)) pa_nil))))))
    (pss_cons (ps_set (i := 1) nd rfl (Or.inl rfl) (pe_op op_cat (pv 1) (pe_lst (pa_cons (pe_lst (pa_cons (pe_tup (pa_cons pe_str (pa_cons (pe_lst (pa_cons pe_str (pa_cons pe_str (pa_cons pe_str (pa_cons pe_str (pa_cons pe_str (pa_cons pe_str (pa_cons pe_str pa_nil)))))))) (pa_cons (pe_lst (pa_cons (pe_lst pa_nil) pa_nil)) pa_nil)))) pa_nil)) (pa_cons (pe_lst (pa_cons (pe_tup (pa_cons pe_str (pa_cons (pe_lst pa_nil) (pa_cons (pe_lst (pa_cons (pe_lst pa_nil) pa_nil)) pa_nil)))) pa_nil)) (pa_cons (pe_lst (pa_cons (pe_tup (pa_cons pe_str (pa_cons (pe_lst pa_nil) (pa_cons (pe_lst (pa_cons pe_non pa_nil)) pa_nil)))) pa_nil)) (pa_cons (pe_lst (pa_cons (pe_tup (pa_cons pe_str (pa_cons pe_str (pa_cons (pe_lst (pa_cons (pe_lst pa_nil) pa_nil)) pa_nil)))) pa_nil)) (pa_cons (pe_lst (pa_cons (pe_tup (pa_cons pe_str (pa_cons (pe_lst pa_nil) (pa_cons (pe_lst (pa_cons (pe_lst (pa_cons (pe_tup (pa_cons pe_str (pa_cons pe_int pa_nil))) pa_nil)) pa_nil)) pa_nil)))) pa_nil)) pa_nil))))))))
    (pss_one (ps_ret (pe_call G__law_pick (hr.mono (by decide)) (by rfl) g__law_pick kp__law_pick b__law_pick .nil pass0 (pa_cons (pv 0) (pa_cons (pv 1) pa_nil)))))))))), fun Z G p n us ds hp hv hP hn => ?_⟩
  subst hP
  cases hv
  show IS K Z p n (n + 1) _ _ G (fun d => d ∈ badF4)
  refine is_set hp (ie_ev (d := .list badF0) (ev_lst (eva_cons ev_non (eva_cons ev_str (eva_cons (ev_lst (eva_cons (ev_tup (eva_cons ev_str (eva_cons (ev_lst (eva_cons ev_str eva_nil) (line1000 (Nat.le_of_ble_eq_true rfl))) (eva_cons (ev_lst (eva_cons (ev_lst eva_nil (line1000 (Nat.le_of_ble_eq_true rfl))) eva_nil) (line1000 (Nat.le_of_ble_eq_true rfl))) eva_nil))) (line1000 (Nat.le_of_ble_eq_true rfl))) (eva_cons (ev_tup (eva_cons ev_str (eva_cons (ev_lst eva_nil (line1000 (Nat.le_of_ble_eq_true rfl))) (eva_cons (ev_lst (eva_cons (ev_lst eva_nil (line1000 (Nat.le_of_ble_eq_true rfl))) eva_nil) (line1000 (Nat.le_of_ble_eq_true rfl))) eva_nil))) (line1000 (Nat.le_of_ble_eq_true rfl))) eva_nil)) (line1000 (Nat.le_of_ble_eq_true rfl))) (eva_cons (ev_lst (eva_cons (ev_tup (eva_cons ev_str (eva_cons (ev_lst (eva_cons ev_str (eva_cons ev_str eva_nil)) (line1000 (Nat.le_of_ble_eq_true rfl))) (eva_cons (ev_lst (eva_cons (ev_lst eva_nil (line1000 (Nat.le_of_ble_eq_true rfl))) eva_nil) (line1000 (Nat.le_of_ble_eq_true rfl))) eva_nil))) (line1000 (Nat.le_of_ble_eq_true rfl))) eva_nil) (line1000 (Nat.le_of_ble_eq_true rfl))) (eva_cons (ev_lst (eva_cons (ev_tup (eva_cons ev_str (eva_cons (ev_lst (eva_cons ev_str eva_nil) (line1000 (Nat.le_of_ble_eq_true rfl))) (eva_cons (ev_lst eva_nil (line1000 (Nat.le_of_ble_eq_true rfl))) eva_nil))) (line1000 (Nat.le_of_ble_eq_true rfl))) eva_nil) (line1000 (Nat.le_of_ble_eq_true rfl))) (eva_cons (ev_lst (eva_cons (ev_tup (eva_cons ev_str (eva_cons (ev_lst (eva_cons ev_str eva_nil) (line1000 (Nat.le_of_ble_eq_true rfl))) eva_nil)) (line1000 (Nat.le_of_ble_eq_true rfl))) eva_nil) (line1000 (Nat.le_of_ble_eq_true rfl))) (eva_cons (ev_lst (eva_cons (ev_tup (eva_cons ev_str (eva_cons (ev_lst eva_nil (line1000 (Nat.le_of_ble_eq_true rfl))) (eva_cons (ev_lst (eva_cons (ev_lst eva_nil (line1000 (Nat.le_of_ble_eq_true rfl))) eva_nil) (line1000 (Nat.le_of_ble_eq_true rfl))) eva_nil))) (line1000 (Nat.le_of_ble_eq_true rfl))) eva_nil) (line1000 (Nat.le_of_ble_eq_true rfl))) eva_nil))))))) (line1000 (Nat.le_of_ble_eq_true rfl)))) fun d v1 G1 e s1 d1 => ?_
  subst e
  refine is_set hp (ie_ev (d := .list badF1) (ev_op (ev_var rfl d1) (ev_lst (eva_cons (ev_lst (eva_cons (ev_tup (eva_cons ev_str (eva_cons (ev_lst (eva_cons ev_str eva_nil) (line1000 (Nat.le_of_ble_eq_true rfl))) (eva_cons (ev_lst (eva_cons (ev_lst (eva_cons (ev_tup (eva_cons ev_str (eva_cons ev_str (eva_cons ev_int eva_nil))) (line1000 (Nat.le_of_ble_eq_true rfl))) eva_nil) (line1000 (Nat.le_of_ble_eq_true rfl))) eva_nil) (line1000 (Nat.le_of_ble_eq_true rfl))) eva_nil))) (line1000 (Nat.le_of_ble_eq_true rfl))) eva_nil) (line1000 (Nat.le_of_ble_eq_true rfl))) (eva_cons (ev_lst (eva_cons (ev_tup (eva_cons ev_str (eva_cons (ev_lst (eva_cons ev_str eva_nil) (line1000 (Nat.le_of_ble_eq_true rfl))) (eva_cons (ev_lst (eva_cons (ev_lst (eva_cons (ev_tup (eva_cons ev_str (eva_cons ev_int eva_nil)) (line1000 (Nat.le_of_ble_eq_true rfl))) eva_nil) (line1000 (Nat.le_of_ble_eq_true rfl))) eva_nil) (line1000 (Nat.le_of_ble_eq_true rfl))) eva_nil))) (line1000 (Nat.le_of_ble_eq_true rfl))) eva_nil) (line1000 (Nat.le_of_ble_eq_true rfl))) (eva_cons (ev_lst (eva_cons (ev_tup (eva_cons ev_str (eva_cons (ev_lst eva_nil (line1000 (Nat.le_of_ble_eq_true rfl))) (eva_cons (ev_lst (eva_cons (ev_lst (eva_cons (ev_tup (eva_cons ev_str (eva_cons ev_int eva_nil)) (line1000 (Nat.le_of_ble_eq_true rfl))) eva_nil) (line1000 (Nat.le_of_ble_eq_true rfl))) eva_nil) (line1000 (Nat.le_of_ble_eq_true rfl))) eva_nil))) (line1000 (Nat.le_of_ble_eq_true rfl))) (eva_cons (ev_tup (eva_cons ev_str (eva_cons (ev_lst eva_nil (line1000 (Nat.le_of_ble_eq_true rfl))) (eva_cons (ev_lst (eva_cons (ev_lst eva_nil (line1000 (Nat.le_of_ble_eq_true rfl))) eva_nil) (line1000 (Nat.le_of_ble_eq_true rfl))) eva_nil))) (line1000 (Nat.le_of_ble_eq_true rfl))) eva_nil)) (line1000 (Nat.le_of_ble_eq_true rfl))) eva_nil))) (line1000 (Nat.le_of_ble_eq_true rfl))) (rd_cat (by decide)))) fun d v1 G2 e s2 d1 => ?_
  subst e
  refine is_set hp (ie_ev (d := .list badF2) (ev_op (ev_var rfl d1) (ev_lst (eva_cons (ev_lst (eva_cons (ev_tup (eva_cons ev_str (eva_cons (ev_lst (eva_cons ev_str (eva_cons ev_str eva_nil)) (line1000 (Nat.le_of_ble_eq_true rfl))) (eva_cons (ev_lst (eva_cons (ev_lst eva_nil (line1000 (Nat.le_of_ble_eq_true rfl))) eva_nil) (line1000 (Nat.le_of_ble_eq_true rfl))) eva_nil))) (line1000 (Nat.le_of_ble_eq_true rfl))) (eva_cons (ev_tup (eva_cons ev_str (eva_cons (ev_lst eva_nil (line1000 (Nat.le_of_ble_eq_true rfl))) (eva_cons (ev_lst (eva_cons (ev_lst (eva_cons (ev_tup (eva_cons ev_str (eva_cons ev_int eva_nil)) (line1000 (Nat.le_of_ble_eq_true rfl))) eva_nil) (line1000 (Nat.le_of_ble_eq_true rfl))) eva_nil) (line1000 (Nat.le_of_ble_eq_true rfl))) eva_nil))) (line1000 (Nat.le_of_ble_eq_true rfl))) eva_nil)) (line1000 (Nat.le_of_ble_eq_true rfl))) (eva_cons (ev_lst (eva_cons (ev_tup (eva_cons ev_str (eva_cons (ev_lst eva_nil (line1000 (Nat.le_of_ble_eq_true rfl))) (eva_cons (ev_lst (eva_cons (ev_lst eva_nil (line1000 (Nat.le_of_ble_eq_true rfl))) eva_nil) (line1000 (Nat.le_of_ble_eq_true rfl))) eva_nil))) (line1000 (Nat.le_of_ble_eq_true rfl))) (eva_cons (ev_tup (eva_cons ev_str (eva_cons (ev_lst eva_nil (line1000 (Nat.le_of_ble_eq_true rfl))) (eva_cons (ev_lst (eva_cons (ev_lst (eva_cons (ev_tup (eva_cons ev_str (eva_cons ev_int eva_nil)) (line1000 (Nat.le_of_ble_eq_true rfl))) eva_nil) (line1000 (Nat.le_of_ble_eq_true rfl))) eva_nil) (line1000 (Nat.le_of_ble_eq_true rfl))) eva_nil))) (line1000 (Nat.le_of_ble_eq_true rfl))) eva_nil)) (line1000 (Nat.le_of_ble_eq_true rfl))) eva_nil)) (line1000 (Nat.le_of_ble_eq_true rfl))) (rd_cat (by decide)))) fun d v1 G3 e s3 d1 => ?_
  subst e
  refine is_set hp (ie_ev (d := .list badF3) (ev_op (ev_var rfl d1) (ev_lst (eva_cons (ev_lst (eva_cons (ev_tup (eva_cons ev_str (eva_cons (ev_lst eva_nil (line1000 (Nat.le_of_ble_eq_true rfl))) (eva_cons (ev_lst (eva_cons (ev_lst eva_nil (line1000 (Nat.le_of_ble_eq_true rfl))) eva_nil) (line1000 (Nat.le_of_ble_eq_true rfl))) eva_nil))) (line1000 (Nat.le_of_ble_eq_true rfl))) (eva_cons (ev_tup (eva_cons ev_str (eva_cons (ev_lst eva_nil (line1000 (Nat.le_of_ble_eq_true rfl))) (eva_cons (ev_lst (eva_cons (ev_lst (eva_cons (ev_tup (eva_cons ev_str (eva_cons ev_int eva_nil)) (line1000 (Nat.le_of_ble_eq_true rfl))) eva_nil) (line1000 (Nat.le_of_ble_eq_true rfl))) eva_nil) (line1000 (Nat.le_of_ble_eq_true rfl))) eva_nil))) (line1000 (Nat.le_of_ble_eq_true rfl))) eva_nil)) (line1000 (Nat.le_of_ble_eq_true rfl))) (eva_cons (ev_fAt (n := 9) (by decide) (fun _ => rfl) (fun _ => rfl)) (eva_cons (ev_lst (eva_cons (ev_tup (eva_cons ev_str (eva_cons (ev_lst eva_nil (line1000 (Nat.le_of_ble_eq_true rfl))) (eva_cons (ev_op (ev_lst (eva_cons (ev_lst eva_nil (line1000 (Nat.le_of_ble_eq_true rfl))) eva_nil) (line1000 (Nat.le_of_ble_eq_true rfl))) ev_int (rd_rep (m := 7) (by decide) (by decide))) eva_nil))) (line1000 (Nat.le_of_ble_eq_true rfl))) eva_nil) (line1000 (Nat.le_of_ble_eq_true rfl))) eva_nil))) (line1000 (Nat.le_of_ble_eq_true rfl))) (rd_cat (by decide)))) fun d v1 G4 e s4 d1 => ?_
  subst e
  refine is_set hp (ie_ev (d := .list badF4) (ev_op (ev_var rfl d1) (ev_lst (eva_cons (ev_lst (eva_cons (ev_tup (eva_cons ev_str (eva_cons (ev_lst (eva_cons ev_str (eva_cons ev_str (eva_cons ev_str (eva_cons ev_str (eva_cons ev_str (eva_cons ev_str (eva_cons ev_str eva_nil))))))) (line1000 (Nat.le_of_ble_eq_true rfl))) (eva_cons (ev_lst (eva_cons (ev_lst eva_nil (line1000 (Nat.le_of_ble_eq_true rfl))) eva_nil) (line1000 (Nat.le_of_ble_eq_true rfl))) eva_nil))) (line1000 (Nat.le_of_ble_eq_true rfl))) eva_nil) (line1000 (Nat.le_of_ble_eq_true rfl))) (eva_cons (ev_lst (eva_cons (ev_tup (eva_cons ev_str (eva_cons (ev_lst eva_nil (line1000 (Nat.le_of_ble_eq_true rfl))) (eva_cons (ev_lst (eva_cons (ev_lst eva_nil (line1000 (Nat.le_of_ble_eq_true rfl))) eva_nil) (line1000 (Nat.le_of_ble_eq_true rfl))) eva_nil))) (line1000 (Nat.le_of_ble_eq_true rfl))) eva_nil) (line1000 (Nat.le_of_ble_eq_true rfl))) (eva_cons (ev_lst (eva_cons (ev_tup (eva_cons ev_str (eva_cons (ev_lst eva_nil (line1000 (Nat.le_of_ble_eq_true rfl))) (eva_cons (ev_lst (eva_cons ev_non eva_nil) (line1000 (Nat.le_of_ble_eq_true rfl))) eva_nil))) (line1000 (Nat.le_of_ble_eq_true rfl))) eva_nil) (line1000 (Nat.le_of_ble_eq_true rfl))) (eva_cons (ev_lst (eva_cons (ev_tup (eva_cons ev_str (eva_cons ev_str (eva_cons (ev_lst (eva_cons (ev_lst eva_nil (line1000 (Nat.le_of_ble_eq_true rfl))) eva_nil) (line1000 (Nat.le_of_ble_eq_true rfl))) eva_nil))) (line1000 (Nat.le_of_ble_eq_true rfl))) eva_nil) (line1000 (Nat.le_of_ble_eq_true rfl))) (eva_cons (ev_lst (eva_cons (ev_tup (eva_cons ev_str (eva_cons (ev_lst eva_nil (line1000 (Nat.le_of_ble_eq_true rfl))) (eva_cons (ev_lst (eva_cons (ev_lst (eva_cons (ev_tup (eva_cons ev_str (eva_cons ev_int eva_nil)) (line1000 (Nat.le_of_ble_eq_true rfl))) eva_nil) (line1000 (Nat.le_of_ble_eq_true rfl))) eva_nil) (line1000 (Nat.le_of_ble_eq_true rfl))) eva_nil))) (line1000 (Nat.le_of_ble_eq_true rfl))) eva_nil) (line1000 (Nat.le_of_ble_eq_true rfl))) eva_nil))))) (line1000 (Nat.le_of_ble_eq_true rfl))) (rd_cat (by decide)))) fun d v1 G5 e s5 d1 => ?_
  subst e
  exact is_ret (ie_pickK hp rfl (ev_var rfl d1) (by decide) (by decide) (by omega))

def badM0 : List PyData := [.str "spend", .tuple [.str "spend", .int 0], .tuple [.str "number", .int 0], .tuple [.str "number", .int 0, .bool true], .tuple [.str "number", .int 0, .int 2147483648], .tuple [.str "number", .int 0, .int (-2147483648)], .tuple [.str "name", .int 0, .str "X"]]
def badM1 (m : Int) : List PyData := [.tuple [.str "flag", .int 0, .str "p"], .tuple [.str "add", .int 0, .int 1], .tuple [.str "add", .int 0, .int 1, .int m], .tuple [.str "neg", .int (-1), .int 0], .tuple [.str "shl 0", .int 0, .int 0], .tuple [.str "shl 32", .int 0, .int 0], .tuple [.str "shl 03", .int 0, .int 0]]
def badM2 : List PyData := [.tuple [.str "store", .int 1000, .int 0], .tuple [.str "store", .int (-1), .int 0], .tuple [.str "load", .int 0, .int 1000], .tuple [.str "go", .int 9], .tuple [.str "unless", .int 0, .int (-1)], .tuple [.str "call h 0", .int 0], .tuple [.str "if", .int 0, .int 0, .int 0], .tuple []]
def badM3 : List PyData := [.tuple [.str "hand"], .tuple [.str "true", .int 0, .int 0], .tuple [.str "put", .int 0, .none], .tuple [.str "ask", .str "true"], .tuple [.str "keep", .int 0, .str "x"], .tuple [.str "open", .int 0], .none, .int 5, .tuple [.str "Add", .int 0, .int 0, .int 0], .tuple [.str "at", .int 0, .bool true]]
def aheadD : List PyData := [.tuple [.str "tell", .int 0], .tuple [.str "spend"]]
def leadM (r : Nat) : List PyData := [.tuple [.str "go", .int r], .tuple [.str "unless", .int 0, .int r], .tuple [.str "go", .int ((r : Int) + 2)], .tuple [.str "go", .bool true], .tuple [.str "go", .str "0"], .tuple [.str "go", .int 0]]
def badMenu (m : Int) (r : Nat) : List PyData := badM0 ++ badM1 m ++ badM2 ++ badM3 ++ leadM r
def badRowsR (m : Int) (d : PyData) : Prop := ∃ (r : Nat) (x : PyData), r ≤ 2 ∧ x ∈ badMenu m r ∧ d = .list (aheadD.take r ++ [x])
theorem ahead_len {r : Nat} (h : r ≤ 2) : (aheadD.take r).length = r := by
  rcases (by omega : r = 0 ∨ r = 1 ∨ r = 2) with rfl | rfl | rfl <;> rfl
theorem ahead_ne {r : Nat} (h : r ≤ 2) : (!PyData.eqv (.list (aheadD.take r)) (.list [.tuple [.str "spend"]])) = true := by
  rcases (by omega : r = 0 ∨ r = 1 ∨ r = 2) with rfl | rfl | rfl <;> decide +kernel
theorem ahead_small {r : Nat} (h : r ≤ 2) : smallD (.list (aheadD.take r)) = true ∧ (PyData.list (aheadD.take r)).depth ≤ 5 := by
  rcases (by omega : r = 0 ∨ r = 1 ∨ r = 2) with rfl | rfl | rfl <;> exact ⟨by decide +kernel, by decide +kernel⟩
def N__law_bad_rows : List Str := ["_law_pen_here", "_law_many", "_law_bad", "_law_more", "_law_third", "_law_last", "_law_ahead", "_law_lead"]
theorem sc_badR : FnScope N__law_bad_rows ["_law_pen_here", "_law_many"] (defScope s__law_bad_rows) := ⟨rfl, rfl, rfl, by decide +kernel, rfl, by decide +kernel, by decide +kernel⟩
theorem ok_badR (A0 : At K mg "_law_bad_rows" s__law_bad_rows ["_law_pen_here", "_law_many"]) (T : Tx w K mg) (D__law_draw : Df P w K mg base "_law_draw" 1 ["_law_pen_here", "_law_many"] (spDraw K)) (D__law_pick : Df P w K mg base "_law_pick" 2 ["_law_pen_here", "_law_some"] (spPick K)) :
    Df P w K mg base "_law_bad_rows" 3 ["_law_pen_here", "_law_many"] (spI K 7 (fun ds => ∃ m : Int, ds = [.int m]) (fun ds d => match ds with | [.int m] => badRowsR m d | _ => False)) := by
  obtain ⟨f__law_draw, fd__law_draw, g__law_draw, kp__law_draw, b__law_draw, G__law_draw⟩ := D__law_draw
  obtain ⟨f__law_pick, fd__law_pick, g__law_pick, kp__law_pick, b__law_pick, G__law_pick⟩ := D__law_pick
  refine df_i A0 sc_badR ?_ (fun f cdv A outer s H E hr => ?_)
  · rintro ds ⟨m, rfl⟩; rfl
  have nd := sc_badR.nd
  refine ⟨_, (pss_cons (ps_set (i := 2) nd rfl (Or.inl rfl) (pe_call G__law_pick (hr.mono (by decide)) (by rfl) g__law_pick kp__law_pick b__law_pick .nil pass0 (pa_cons (pv 0) (pa_cons (pe_lst (pa_cons pe_str (pa_cons (pe_tup (pa_cons pe_str (pa_cons pe_int pa_nil))) (pa_cons (pe_tup (pa_cons pe_str (pa_cons pe_int pa_nil))) (pa_cons (pe_tup (pa_cons pe_str (pa_cons pe_int (pa_cons pe_bl pa_nil)))) (pa_cons (pe_tup (pa_cons pe_str (pa_cons pe_int (pa_cons pe_int pa_nil)))) (pa_cons (pe_tup (pa_cons pe_str (pa_cons pe_int (pa_cons (pe_un un_neg pe_int) pa_nil)))) (pa_cons (pe_tup (pa_cons pe_str (pa_cons pe_int (pa_cons pe_str pa_nil)))) pa_nil)))))))) pa_nil))))
    (pss_cons (ps_set (i := 3) nd rfl (Or.inl rfl) (pe_call G__law_pick (hr.mono (by decide)) (by rfl) g__law_pick kp__law_pick b__law_pick .nil pass0 (pa_cons (pv 0) (pa_cons (pe_lst (pa_cons (pe_tup (pa_cons pe_str (pa_cons pe_int (pa_cons pe_str pa_nil)))) (pa_cons (pe_tup (pa_cons pe_str (pa_cons pe_int (pa_cons pe_int pa_nil)))) (pa_cons (pe_tup (pa_cons pe_str (pa_cons pe_int (pa_cons pe_int (pa_cons (pv 1) pa_nil))))) (pa_cons (pe_tup (pa_cons pe_str (pa_cons (pe_un un_neg pe_int) (pa_cons pe_int pa_nil)))) (pa_cons (pe_tup (pa_cons pe_str (pa_cons pe_int (pa_cons pe_int pa_nil)))) (pa_cons (pe_tup (pa_cons pe_str (pa_cons pe_int (pa_cons pe_int pa_nil)))) (pa_cons (pe_tup (pa_cons pe_str (pa_cons pe_int (pa_cons pe_int pa_nil)))) pa_nil)))))))) pa_nil))))
    (pss_cons (ps_set (i := 4) nd rfl (Or.inl rfl) (pe_call G__law_pick (hr.mono (by decide)) (by rfl) g__law_pick kp__law_pick b__law_pick .nil pass0 (pa_cons (pv 0) (pa_cons (pe_lst (pa_cons (pe_tup (pa_cons pe_str (pa_cons pe_int (pa_cons pe_int pa_nil)))) (pa_cons (pe_tup (pa_cons pe_str (pa_cons (pe_un un_neg pe_int) (pa_cons pe_int pa_nil)))) (pa_cons (pe_tup (pa_cons pe_str (pa_cons pe_int (pa_cons pe_int pa_nil)))) (pa_cons (pe_tup (pa_cons pe_str (pa_cons pe_int pa_nil))) (pa_cons (pe_tup (pa_cons pe_str (pa_cons pe_int (pa_cons (pe_un un_neg pe_int) pa_nil)))) (pa_cons (pe_tup (pa_cons pe_str (pa_cons pe_int pa_nil))) (pa_cons (pe_tup (pa_cons pe_str (pa_cons pe_int (pa_cons pe_int (pa_cons pe_int pa_nil))))) (pa_cons (pe_tup pa_nil) pa_nil))))))))) pa_nil))))
    (pss_cons (ps_set (i := 5) nd rfl (Or.inl rfl) (pe_call G__law_pick (hr.mono (by decide)) (by rfl) g__law_pick kp__law_pick b__law_pick .nil pass0 (pa_cons (pv 0) (pa_cons (pe_lst (pa_cons (pe_tup (pa_cons pe_str pa_nil)) (pa_cons (pe_tup (pa_cons pe_str (pa_cons pe_int (pa_cons pe_int pa_nil)))) (pa_cons (pe_tup (pa_cons pe_str (pa_cons pe_int (pa_cons pe_non pa_nil)))) (pa_cons (pe_tup (pa_cons pe_str (pa_cons pe_str pa_nil))) (pa_cons (pe_tup (pa_cons pe_str (pa_cons pe_int (pa_cons pe_str pa_nil)))) (pa_cons (pe_tup (pa_cons pe_str (pa_cons pe_int pa_nil))) (pa_cons pe_non (pa_cons pe_int (pa_cons (pe_tup (pa_cons pe_str (pa_cons pe_int (pa_cons pe_int (pa_cons pe_int pa_nil))))) (pa_cons (pe_tup (pa_cons pe_str (pa_cons pe_int (pa_cons pe_bl pa_nil)))) pa_nil))))))))))) pa_nil))))
    (pss_cons (ps_set (i := 6) nd rfl (Or.inl rfl) (pe_slice sl_list (pe_lst (pa_cons (pe_tup (pa_cons pe_str (pa_cons pe_int pa_nil))) (pa_cons (pe_tup (pa_cons pe_str pa_nil)) pa_nil))) po_none (po_some (pe_call G__law_draw (hr.mono (by decide)) (by rfl) g__law_draw kp__law_draw b__law_draw .nil pass0 (pa_cons (pv 0) (pa_cons pe_int pa_nil))))))
    (pss_cons (ps_set (i := 7) nd rfl (Or.inl rfl) (pe_call G__law_pick (hr.mono (by decide)) (by rfl) g__law_pick kp__law_pick b__law_pick .nil pass0 (pa_cons (pv 0) (pa_cons (pe_lst (pa_cons (pe_tup (pa_cons pe_str (pa_cons (pe_callB (r := fun xs H Q => ∃ x n, xs = [x] ∧ LenV K x H n ∧ Q (.int n) H) call_len (by rfl) T.b_len PySem.boot_len (pa_cons (pv 6) pa_nil)) pa_nil))) (pa_cons (pe_tup (pa_cons pe_str (pa_cons pe_int (pa_cons (pe_callB (r := fun xs H Q => ∃ x n, xs = [x] ∧ LenV K x H n ∧ Q (.int n) H) call_len (by rfl) T.b_len PySem.boot_len (pa_cons (pv 6) pa_nil)) pa_nil)))) (pa_cons (pe_tup (pa_cons pe_str (pa_cons (pe_op op_add (pe_callB (r := fun xs H Q => ∃ x n, xs = [x] ∧ LenV K x H n ∧ Q (.int n) H) call_len (by rfl) T.b_len PySem.boot_len (pa_cons (pv 6) pa_nil)) pe_int) pa_nil))) (pa_cons (pe_tup (pa_cons pe_str (pa_cons pe_bl pa_nil))) (pa_cons (pe_tup (pa_cons pe_str (pa_cons pe_str pa_nil))) (pa_cons (pe_ifExp (pt_cmpR (r := rNeD K) (op_neD hr.units) (pv 6) (pe_lst (pa_cons (pe_tup (pa_cons pe_str pa_nil)) pa_nil)) (nomark _)) (pe_tup (pa_cons pe_str (pa_cons pe_int pa_nil))) pe_int) pa_nil))))))) pa_nil))))
    (pss_one (ps_ret (pe_op op_cat (pv 6) (pe_lst (pa_cons (pe_call G__law_pick (hr.mono (by decide)) (by rfl) g__law_pick kp__law_pick b__law_pick .nil pass0 (pa_cons (pv 0) (pa_cons (pe_lst (pa_cons (pv 2) (pa_cons (pv 3) (pa_cons (pv 4) (pa_cons (pv 5) (pa_cons (pv 7) pa_nil)))))) pa_nil))) pa_nil))))))))))), fun Z G p n us ds hp hv hP hn => ?_⟩
  obtain ⟨m, rfl⟩ := hP
  obtain ⟨vm, rfl, dm⟩ := all1 hv
  show IS K Z p n (n + 7) _ _ G (badRowsR m)
  refine is_set hp (ie_pickK hp rfl (ev_lst (eva_cons ev_str (eva_cons (ev_tup (eva_cons ev_str (eva_cons ev_int eva_nil)) (line1000 (Nat.le_of_ble_eq_true rfl))) (eva_cons (ev_tup (eva_cons ev_str (eva_cons ev_int eva_nil)) (line1000 (Nat.le_of_ble_eq_true rfl))) (eva_cons (ev_tup (eva_cons ev_str (eva_cons ev_int (eva_cons ev_bl eva_nil))) (line1000 (Nat.le_of_ble_eq_true rfl))) (eva_cons (ev_tup (eva_cons ev_str (eva_cons ev_int (eva_cons ev_int eva_nil))) (line1000 (Nat.le_of_ble_eq_true rfl))) (eva_cons (ev_tup (eva_cons ev_str (eva_cons ev_int (eva_cons (ev_neg ev_int) eva_nil))) (line1000 (Nat.le_of_ble_eq_true rfl))) (eva_cons (ev_tup (eva_cons ev_str (eva_cons ev_int (eva_cons ev_str eva_nil))) (line1000 (Nat.le_of_ble_eq_true rfl))) eva_nil))))))) (line1000 (Nat.le_of_ble_eq_true rfl))) (by simp) (by simp) (by omega)) fun x0 v0 G1 h0 s1 d0 => ?_
  replace dm := Dx.same s1 _ _ dm
  refine is_set hp (ie_pickK hp rfl (ev_lst (eva_cons (ev_tup (eva_cons ev_str (eva_cons ev_int (eva_cons ev_str eva_nil))) (line1000 (Nat.le_of_ble_eq_true rfl))) (eva_cons (ev_tup (eva_cons ev_str (eva_cons ev_int (eva_cons ev_int eva_nil))) (line1000 (Nat.le_of_ble_eq_true rfl))) (eva_cons (ev_tup (eva_cons ev_str (eva_cons ev_int (eva_cons ev_int (eva_cons (ev_var (i := 1) rfl dm) eva_nil)))) (line1000 (Nat.le_of_ble_eq_true rfl))) (eva_cons (ev_tup (eva_cons ev_str (eva_cons (ev_neg ev_int) (eva_cons ev_int eva_nil))) (line1000 (Nat.le_of_ble_eq_true rfl))) (eva_cons (ev_tup (eva_cons ev_str (eva_cons ev_int (eva_cons ev_int eva_nil))) (line1000 (Nat.le_of_ble_eq_true rfl))) (eva_cons (ev_tup (eva_cons ev_str (eva_cons ev_int (eva_cons ev_int eva_nil))) (line1000 (Nat.le_of_ble_eq_true rfl))) (eva_cons (ev_tup (eva_cons ev_str (eva_cons ev_int (eva_cons ev_int eva_nil))) (line1000 (Nat.le_of_ble_eq_true rfl))) eva_nil))))))) (line1000 (Nat.le_of_ble_eq_true rfl))) (by simp) (by simp) (by omega)) fun x1 v1 G2 h1 s2 d1 => ?_
  replace dm := Dx.same s2 _ _ dm
  replace d0 := Dx.same s2 _ _ d0
  refine is_set hp (ie_pickK hp rfl (ev_lst (eva_cons (ev_tup (eva_cons ev_str (eva_cons ev_int (eva_cons ev_int eva_nil))) (line1000 (Nat.le_of_ble_eq_true rfl))) (eva_cons (ev_tup (eva_cons ev_str (eva_cons (ev_neg ev_int) (eva_cons ev_int eva_nil))) (line1000 (Nat.le_of_ble_eq_true rfl))) (eva_cons (ev_tup (eva_cons ev_str (eva_cons ev_int (eva_cons ev_int eva_nil))) (line1000 (Nat.le_of_ble_eq_true rfl))) (eva_cons (ev_tup (eva_cons ev_str (eva_cons ev_int eva_nil)) (line1000 (Nat.le_of_ble_eq_true rfl))) (eva_cons (ev_tup (eva_cons ev_str (eva_cons ev_int (eva_cons (ev_neg ev_int) eva_nil))) (line1000 (Nat.le_of_ble_eq_true rfl))) (eva_cons (ev_tup (eva_cons ev_str (eva_cons ev_int eva_nil)) (line1000 (Nat.le_of_ble_eq_true rfl))) (eva_cons (ev_tup (eva_cons ev_str (eva_cons ev_int (eva_cons ev_int (eva_cons ev_int eva_nil)))) (line1000 (Nat.le_of_ble_eq_true rfl))) (eva_cons (ev_tup eva_nil (line1000 (Nat.le_of_ble_eq_true rfl))) eva_nil)))))))) (line1000 (Nat.le_of_ble_eq_true rfl))) (by simp) (by simp) (by omega)) fun x2 v2 G3 h2 s3 d2 => ?_
  replace dm := Dx.same s3 _ _ dm
  replace d0 := Dx.same s3 _ _ d0
  replace d1 := Dx.same s3 _ _ d1
  refine is_set hp (ie_pickK hp rfl (ev_lst (eva_cons (ev_tup (eva_cons ev_str eva_nil) (line1000 (Nat.le_of_ble_eq_true rfl))) (eva_cons (ev_tup (eva_cons ev_str (eva_cons ev_int (eva_cons ev_int eva_nil))) (line1000 (Nat.le_of_ble_eq_true rfl))) (eva_cons (ev_tup (eva_cons ev_str (eva_cons ev_int (eva_cons ev_non eva_nil))) (line1000 (Nat.le_of_ble_eq_true rfl))) (eva_cons (ev_tup (eva_cons ev_str (eva_cons ev_str eva_nil)) (line1000 (Nat.le_of_ble_eq_true rfl))) (eva_cons (ev_tup (eva_cons ev_str (eva_cons ev_int (eva_cons ev_str eva_nil))) (line1000 (Nat.le_of_ble_eq_true rfl))) (eva_cons (ev_tup (eva_cons ev_str (eva_cons ev_int eva_nil)) (line1000 (Nat.le_of_ble_eq_true rfl))) (eva_cons ev_non (eva_cons ev_int (eva_cons (ev_tup (eva_cons ev_str (eva_cons ev_int (eva_cons ev_int (eva_cons ev_int eva_nil)))) (line1000 (Nat.le_of_ble_eq_true rfl))) (eva_cons (ev_tup (eva_cons ev_str (eva_cons ev_int (eva_cons ev_bl eva_nil))) (line1000 (Nat.le_of_ble_eq_true rfl))) eva_nil)))))))))) (line1000 (Nat.le_of_ble_eq_true rfl))) (by simp) (by simp) (by omega)) fun x3 v3 G4 h3 s4 d3 => ?_
  replace dm := Dx.same s4 _ _ dm
  replace d0 := Dx.same s4 _ _ d0
  replace d1 := Dx.same s4 _ _ d1
  replace d2 := Dx.same s4 _ _ d2
  refine is_set hp ((ie_slL (RN := fun r => r ≤ 2) hp (ev_lst (eva_cons (ev_tup (eva_cons ev_str (eva_cons ev_int eva_nil)) (line1000 (Nat.le_of_ble_eq_true rfl))) (eva_cons (ev_tup (eva_cons ev_str eva_nil) (line1000 (Nat.le_of_ble_eq_true rfl))) eva_nil)) (line1000 (Nat.le_of_ble_eq_true rfl))) ((ie_drawK hp rfl ev_int (by decide) (by decide) (by omega)).imp fun d h => ?_))) fun xa va G5 ha s5 da => ?_
  · obtain ⟨r, rfl, r0, r1⟩ := h
    exact ⟨r.toNat, by rw [Int.toNat_of_nonneg r0], by omega⟩
  obtain ⟨r, hr2, rfl⟩ := ha
  replace da : Dx K G5 va (.list (aheadD.take r)) := da
  replace d0 := Dx.same s5 _ _ d0
  replace d1 := Dx.same s5 _ _ d1
  replace d2 := Dx.same s5 _ _ d2
  replace d3 := Dx.same s5 _ _ d3
  have hl : ∀ {σ : L2.St}, σ[6]? = some (some va) → Ev K Z (tCB (fun xs H Q => ∃ x n, xs = [x] ∧ LenV K x H n ∧ Q (.int n) H) (tCons (tVar 6) tNil)) σ G5 (.int r) := fun e => (ev_cb (eva_cons (ev_var e da) eva_nil) rc_lenL).to (by rw [ahead_len hr2])
  have go1 : ∀ {a b : PyData} {ta tb : TE} {σ : L2.St}, Ev K Z ta σ G5 a → Ev K Z tb σ G5 b → Ev K Z (tTup (tCons ta (tCons tb tNil))) σ G5 (.tuple [a, b]) := fun h1 h2 => ev_tup (eva_cons h1 (eva_cons h2 eva_nil)) (line1000 (Nat.le_of_ble_eq_true rfl))
  refine is_set hp (ie_pickK (ds := leadM r) hp rfl (ev_lst (eva_cons (go1 ev_str (hl rfl)) (eva_cons (ev_tup (eva_cons ev_str (eva_cons ev_int (eva_cons (hl rfl) eva_nil))) (line1000 (Nat.le_of_ble_eq_true rfl))) (eva_cons (go1 ev_str (ev_op (hl rfl) ev_int (rd_i0 fun _ => .int _))) (eva_cons (go1 ev_str ev_bl) (eva_cons (go1 ev_str ev_str)
    (eva_cons (ev_if (b := true) ((an_test (ev_op (ev_var (i := 6) rfl da) (ev_lst (eva_cons (ev_tup (eva_cons ev_str eva_nil) (line1000 (Nat.le_of_ble_eq_true rfl))) eva_nil) (line1000 (Nat.le_of_ble_eq_true rfl))) (rd_neD (shaped_small (ahead_small hr2).1 (by have := (ahead_small hr2).2; omega)) (by decide +kernel)))).to (ahead_ne hr2)) (fun _ => go1 ev_str ev_int) fun e => by cases e) eva_nil)))))) (line1000 (Nat.le_of_ble_eq_true rfl))) (by simp [leadM]) (by simp [leadM]) (by omega)) fun xl vl G6 hL s6 dl => ?_
  replace d0 := Dx.same s6 _ _ d0
  replace d1 := Dx.same s6 _ _ d1
  replace d2 := Dx.same s6 _ _ d2
  replace d3 := Dx.same s6 _ _ d3
  replace da := Dx.same s6 _ _ da
  refine is_ret (((ie_op (f := fun x y => .list (itemsOf x ++ itemsOf y)) hp (ie_ev (ev_var (i := 6) rfl da)) (ie_lst hp (ia_cons hp (ie_pickK hp rfl (ev_lst (eva_cons (ev_var (i := 2) rfl d0) (eva_cons (ev_var (i := 3) rfl d1) (eva_cons (ev_var (i := 4) rfl d2) (eva_cons (ev_var (i := 5) rfl d3) (eva_cons (ev_var (i := 7) rfl dl) eva_nil))))) (line1000 (Nat.le_of_ble_eq_true rfl))) (by simp) (by simp) (by omega)) ia_nil) (by rintro _ ⟨_, _, rfl, _, rfl⟩; simp)) (fun x y hx hy => ?_)).imp fun d h => ?_).le (by omega))
  · obtain ⟨_, rfl, e, _, rfl, _, rfl⟩ := hy
    rw [hx]
    exact rd_cat (by rw [ahead_len hr2]; simp; omega)
  · obtain ⟨_, _, rfl, ⟨_, rfl, e, _, rfl, he, rfl⟩, rfl⟩ := h
    refine ⟨r, e, hr2, ?_, rfl⟩
    simp only [List.mem_cons, List.not_mem_nil, or_false] at he
    unfold badMenu
    rcases he with rfl | rfl | rfl | rfl | rfl
    · exact List.mem_append_left _ (List.mem_append_left _ (List.mem_append_left _ (List.mem_append_left _ h0)))
    · exact List.mem_append_left _ (List.mem_append_left _ (List.mem_append_left _ (List.mem_append_right _ h1)))
    · exact List.mem_append_left _ (List.mem_append_left _ (List.mem_append_right _ h2))
    · exact List.mem_append_left _ (List.mem_append_right _ h3)
    · exact List.mem_append_right _ hL
end
end K81
namespace K81
open PySem PySem.Spec PyProof.Rows L2

section
variable {P : Program} {w : World} {K : PySem.W.Frag} {mg : Str → Option Value} {base : Heap}
/-- the exception classes -/
structure ErrK (K : PySem.W.Frag) (mg : Str → Option Value) (CE : Addr) (CX : Nat → Addr) : Prop where
  gE : mg "EqualError" = some (.ref CE)
  g0 : mg "BadNumber" = some (.ref (CX 0))
  g1 : mg "BadInput" = some (.ref (CX 1))
  g2 : mg "BadProgram" = some (.ref (CX 2))
  g3 : mg "BadCode" = some (.ref (CX 3))
  g4 : mg "Misfit" = some (.ref (CX 4))
  g5 : mg "BadText" = some (.ref (CX 5))
  ex : ∀ i, i = 0 ∨ i = 3 → PySem.W.exmOne K (.ref (CX i)) (.ref CE) = some true
  is_ : ∀ i, i = 0 ∨ i = 3 → ∀ j, j < 6 → PySem.W.kitOne K (.ref (CX i)) (.ref (CX j)) = some (decide (i = j))
  exc : ∀ i, i = 0 ∨ i = 3 → ExcC K (CX i)
  xf : ∀ i, i = 0 ∨ i = 3 → XfC K (CX i)
  no : ∀ i, i = 0 ∨ i = 3 → PySem.W.findIn K (.ref (CX i)) "part" = some none
def wordOf : Nat → Str
  | 0 => "number"
  | _ => "code"
/-- what _law_heard makes of what it is handed -/
def THeard (K : PySem.W.Frag) (CX : Nat → Addr) : (XK → Hp → VK → Prop) → Hp → VK → Prop := fun tl H Q => ∃ Z : List Addr, ∀ (Ech : XK) (Qok : VK),
  (∀ (i : Nat) (dd : Addr) (part : Str) (H' : Hp), (i = 0 ∨ i = 3) → dd ∉ Z → H' dd = some (.xd [("part", .str part)]) → Occ Z H' → (∀ v H'', Same H' H'' → Dx K (hid Z H'') v (.tuple [.list [.str (wordOf i)], .str part]) → Q v H'') → Ech (.ref (CX i)) (some dd) H') →
  (∀ v H', Q .non H' → Qok v H') → tl Ech H Qok
def wordP : PyData → Bool
  | .tuple [_, .bool b] => b
  | _ => false
def wordD : PyData → PyData
  | .tuple (x :: _) => x
  | _ => .none
def N__law_heard : List Str := ["_law_ask", "_law_caught", "error", "_law_parts", "_law_words", "_law_word", "_law_is_so"]
def heardRest : List Stmt := (defBody s__law_heard).drop 2
theorem sc_heard : FnScope N__law_heard ["_law_ask"] (defScope s__law_heard) := ⟨rfl, rfl, rfl, by decide +kernel, rfl, by decide +kernel, by decide +kernel⟩
theorem heard_gives {X : Cx} {q : Str} {g CE : Addr} {cdg : Value} {CX : Nat → Addr} (hK : X.K = K) (hmg : X.mg = mg) (hw : X.w = w) (T : Tx w K mg) (EK : ErrK K mg CE CX) (hr0 : Room 1 X.A) : LamX.GivesTo X N__law_heard "_law_heard" (defScope s__law_heard) g cdg (defBody s__law_heard) "_law_ask" q (THeard K CX) := by
  subst hK hmg hw
  intro f c' s H Q tl act hc h
  obtain ⟨Z, h⟩ := h
  have nd := sc_heard.nd
  have g_EqualError := EK.gE
  have g_BadNumber := EK.g0
  have r_BadNumber : RelV (.ref (CX 0)) (.ref (CX 0)) := rfl
  have g_BadInput := EK.g1
  have r_BadInput : RelV (.ref (CX 1)) (.ref (CX 1)) := rfl
  have g_BadProgram := EK.g2
  have r_BadProgram : RelV (.ref (CX 2)) (.ref (CX 2)) := rfl
  have g_BadCode := EK.g3
  have r_BadCode : RelV (.ref (CX 3)) (.ref (CX 3)) := rfl
  have g_Misfit := EK.g4
  have r_Misfit : RelV (.ref (CX 4)) (.ref (CX 4)) := rfl
  have g_BadText := EK.g5
  have r_BadText : RelV (.ref (CX 5)) (.ref (CX 5)) := rfl
  have hr : Room 0 (X.A.deeper (envOfC "_law_heard" (defScope s__law_heard) s.heap.objs.size g cdg)) := hr0.deeper _
  let X1 : Cx := (cxOf C8.CX0 X.prog X.w X.K X.mg X.base N__law_heard "_law_heard" (defScope s__law_heard) g cdg X.A X.stack s H C8.E0).nox
  obtain ⟨u1, hu1, hsem⟩ : ∃ u1 : Addr → Value → Option Addr → TS, (∀ (a : Addr) (oe : Obj) (cls : Value) (d : Option Addr) (pn : List (Addr × Obj)), Zc cls d oe → (∃ vs, oe.data = .fields vs) → PSs (X1.tr ((a, oe) :: pn) X1.xe) heardRest (u1 a cls d)) ∧
      ∀ (a : Addr) (i : Nat) (dd : Addr) (part : Str) (H' : Hp) (D : Ends) (x0 x3 x4 x5 x6 : Option V), (i = 0 ∨ i = 3) → dd ∉ Z → H' dd = some (.xd [("part", .str part)]) → Occ Z H' → (∀ v H'', Same H' H'' → Dx X.K (hid Z H'') v (.tuple [.list [.str (wordOf i)], .str part]) → D.rt v H'') →
        u1 a (.ref (CX i)) (some dd) D [x0, some (.ref a), none, x3, x4, x5, x6] H' := by
    refine ⟨fun a cls d => _, fun a oe cls d pn hz hf => (pss_cons (ps_if (pt_cmpR op_isN (pv 1) pe_non (nomark _)) (pss_one (ps_ret pe_non)) pss_nil)
    (pss_cons (ps_set (i := 3) nd rfl (Or.inl rfl) (pe_lst (pa_cons (pe_tup (pa_cons pe_str (pa_cons (pe_callB (r := rIsP X.K a cls d) (call_isP List.mem_cons_self hz hf) (by rfl) T.b_isinstance boot_isinstance (pa_cons (pv 1) (pa_cons (pe_glob (by rfl) g_BadNumber r_BadNumber) pa_nil))) pa_nil))) (pa_cons (pe_tup (pa_cons pe_str (pa_cons (pe_callB (r := rIsP X.K a cls d) (call_isP List.mem_cons_self hz hf) (by rfl) T.b_isinstance boot_isinstance (pa_cons (pv 1) (pa_cons (pe_glob (by rfl) g_BadInput r_BadInput) pa_nil))) pa_nil))) (pa_cons (pe_tup (pa_cons pe_str (pa_cons (pe_callB (r := rIsP X.K a cls d) (call_isP List.mem_cons_self hz hf) (by rfl) T.b_isinstance boot_isinstance (pa_cons (pv 1) (pa_cons (pe_glob (by rfl) g_BadProgram r_BadProgram) pa_nil))) pa_nil))) pa_nil)))))
    (pss_cons (ps_set (i := 3) nd rfl (Or.inl rfl) (pe_op op_cat (pv 3) (pe_lst (pa_cons (pe_tup (pa_cons pe_str (pa_cons (pe_callB (r := rIsP X.K a cls d) (call_isP List.mem_cons_self hz hf) (by rfl) T.b_isinstance boot_isinstance (pa_cons (pv 1) (pa_cons (pe_glob (by rfl) g_BadCode r_BadCode) pa_nil))) pa_nil))) (pa_cons (pe_tup (pa_cons pe_str (pa_cons (pe_callB (r := rIsP X.K a cls d) (call_isP List.mem_cons_self hz hf) (by rfl) T.b_isinstance boot_isinstance (pa_cons (pv 1) (pa_cons (pe_glob (by rfl) g_Misfit r_Misfit) pa_nil))) pa_nil))) pa_nil)))))
    (pss_cons (ps_setLc (i := 4) (own := [("_law_word", 5), ("_law_is_so", 6)]) rfl nd rfl rfl (sw_true rfl rfl rfl (by decide +kernel)) (pi_listK X.K rfl (pv 3)) (blkOk_by (N := N__law_heard) (sc := defScope s__law_heard) (by decide +kernel)) (fun _ _ _ _ _ => (pg_tupK (n := 2) X.K rfl rfl (pgs_cons (pg_name (i := 5) nd rfl (Or.inl rfl)) (pgs_cons (pg_name (i := 6) nd rfl (Or.inl rfl)) pgs_nil)))) (fun _ _ _ _ _ => (pts_one (pt_val (pv 6)))) (fun _ _ _ _ _ => (pv 5)))
    (pss_cons (ps_if (pt_val (pe_callB (r := rIsP X.K a cls d) (call_isP List.mem_cons_self hz hf) (by rfl) T.b_isinstance boot_isinstance (pa_cons (pv 1) (pa_cons (pe_glob (by rfl) g_BadText r_BadText) pa_nil)))) (pss_one (ps_ret (pe_tup (pa_cons (pv 4) (pa_cons (pe_xpK X.K rfl List.mem_cons_self hz hf (pv 1)) (pa_cons (pe_xpK X.K rfl List.mem_cons_self hz hf (pv 1)) pa_nil)))))) pss_nil)
    (pss_one (ps_ret (pe_ifExp (pt_cmpR (r := rNeD X.K) (op_neD hr.units) (pv 4) (pe_lst pa_nil) (nomark _)) (pe_tup (pa_cons (pv 4) (pa_cons (pe_xpK X.K rfl List.mem_cons_self hz hf (pv 1)) pa_nil))) (pe_tup (pa_cons (pv 4) (pa_cons pe_non pa_nil))))))))))), ?_⟩
    intro a i dd part H' D x0 x3 x4 x5 x6 hi hdd hxd oc q
    have hG : (hid Z H') dd = some (.xd [("part", .str part)]) := by rw [hid_out hdd]; exact hxd
    have iss : ∀ {σ : L2.St} {G : Hp} (j : Nat), Same (hid Z H') G → σ[1]? = some (some (.ref a)) → j < 6 → Ev X.K Z (tCB (rIsP X.K a (.ref (CX i)) (some dd)) (tCons (tVar 1) (tCons (tC (.ref (CX j))) tNil))) σ G (.bool (decide (i = j))) := fun j s hv hj => ev_isP hv (s _ _ hG) (EK.exc i hi) (EK.is_ i hi j hj)
    refine sr_run (K := X.K) oc q ?_
    refine sr_if (an_isN_ref rfl) (fun e => by cases e) fun _ => ?_
    have pr : ∀ {σ : L2.St} {G : Hp} (j : Nat) (wd : Str), Same (hid Z H') G → σ[1]? = some (some (.ref a)) → j < 6 → Ev X.K Z (tTup (tCons (tC (.str wd)) (tCons (tCB (rIsP X.K a (.ref (CX i)) (some dd)) (tCons (tVar 1) (tCons (tC (.ref (CX j))) tNil))) tNil))) σ G (.tuple [.str wd, .bool (decide (i = j))]) := fun j wd s hv hj => ev_tup (eva_cons ev_str (eva_cons (iss j s hv hj) eva_nil)) (line1000 (Nat.le_of_ble_eq_true rfl))
    refine sr_set (ev_lst (eva_cons (pr 0 "number" (Same.refl _) rfl (by decide)) (eva_cons (pr 1 "input" (Same.refl _) rfl (by decide)) (eva_cons (pr 2 "program" (Same.refl _) rfl (by decide)) eva_nil))) (line1000 (Nat.le_of_ble_eq_true rfl))) fun v1 G1 s1 d1 => ?_
    refine sr_set (ev_op (ev_var (i := 3) rfl d1) (ev_lst (eva_cons (pr 3 "code" s1 rfl (by decide)) (eva_cons (pr 4 "misfit" s1 rfl (by decide)) eva_nil)) (line1000 (Nat.le_of_ble_eq_true rfl))) (rd_cat (Nat.le_of_ble_eq_true rfl))) fun v2 G2 s2 d2 => ?_
    have s02 := s1.trans s2
    refine sr_set (d1 := .list [.str (wordOf i)]) ((ev_lcf (p := wordP) (f := wordD) (evi_list (ev_var (i := 3) rfl d2)) (line1000 (Nat.le_of_ble_eq_true rfl)) fun Z' j d G' hj sG => ?_).to ?_) fun v3 G3 s3 d3 => ?_
    · have hm := List.mem_of_getElem? hj
      have hd : ∃ (wd : Str) (b : Bool), d = .tuple [.str wd, .bool b] := by
        simp only [List.mem_append, List.mem_cons, List.not_mem_nil, or_false] at hm
        rcases hm with (h | h | h) | h | h <;> exact ⟨_, _, h⟩
      obtain ⟨wd, b, rfl⟩ := hd
      exact eg_two fun u1 u2 G4 s4 e1 e2 => ⟨rfl, an_tB (K := X.K) (ev_var rfl e2), fun _ => ev_var rfl e1⟩
    · rcases hi with rfl | rfl <;> rfl
    have s03 := s02.trans s3
    have hno : decide (i = 5) = false := by rcases hi with rfl | rfl <;> rfl
    refine sr_if (b := false) ((an_tB (iss 5 s03 rfl (by decide))).to hno) (fun e => by cases e) fun _ => sr_ret ?_
    refine ev_if (b := true) ((an_test (ev_op (ev_var (i := 4) rfl d3) (ev_lst eva_nil (by decide +kernel)) (rd_neD (by rcases hi with rfl | rfl <;> decide +kernel) (by decide +kernel)))).to (by rcases hi with rfl | rfl <;> decide +kernel)) (fun _ => ?_) fun e => by cases e
    exact ev_tup (eva_cons (ev_var (i := 4) rfl d3) (eva_cons (ev_xp (i := 1) rfl (s03 _ _ hG) (EK.xf i hi) (EK.no i hi) rfl) eva_nil)) (line1000 (Nat.le_of_ble_eq_true rfl))
  refine ⟨_, pss_cons (ps_set (i := 1) nd rfl (Or.inl rfl) pe_non) (pss_try_hold (i := 2) (c := .ref CE) (ts := fun a cls d => tAsg (tVar 2) (gName 1))
      (tb := fun W D σ H => ∃ Ech : XK, (∀ (cls : Value) (d : Option Addr) (σ' : L2.St) (H' : Hp), Ech cls d H' → σ'.length = 7 → W cls d σ' H') ∧ σ[0]? = some (some (.ref f)) ∧ H c' = some (LamX.CodeO c' q) ∧ tl Ech H (fun _ H1 => D.nx σ H1))
      (u1 := u1)
      rfl rfl nd rfl rfl ⟨rfl, by decide, .inl g_EqualError⟩ L2.takes0 (fun W pn xe tk _ => ⟨fun pins s' σ H' D I h' => ?_⟩) (fun a oe cls d pn _ _ => pss_one (ps_set (i := 1) nd rfl (Or.inl rfl) (pv 2)))
      (pss_cons (ps_if (pt_cmpR op_isN (pv 1) pe_non (nomark _)) (pss_one (ps_ret pe_non)) pss_nil) pss_no) hu1), ?_⟩
  · obtain ⟨Ech, hW, h1, h2, h3⟩ := h'
    have tk' : Takes (X1.tr pn xe) (fun cls d σ H => σ.length = 7 → W cls d σ H) := fun u s' ⟨a, B, sI, pins, σ, H, cls, d, e, I, r1, r2, r3, r4, r5, r6, w⟩ => tk u s' ⟨a, B, sI, pins, σ, H, cls, d, e, I, r1, r2, r3, r4, r5, r6, w I.len⟩
    exact (pss_one (ps_expr (act (fun cls d σ H => σ.length = 7 → W cls d σ H) pn xe Ech _ _ tk' hW))).run pins s' σ H' D I ⟨h1, h2, h3⟩
  · refine ⟨fun cls d H' => ∃ (i : Nat) (dd : Addr) (part : Str), (i = 0 ∨ i = 3) ∧ cls = .ref (CX i) ∧ d = some dd ∧ dd ∉ Z ∧ H' dd = some (.xd [("part", .str part)]) ∧ Occ Z H' ∧ ∀ v H'', Same H' H'' → Dx X.K (hid Z H'') v (.tuple [.list [.str (wordOf i)], .str part]) → Q v H'', ?_, rfl, hc, ?_⟩
    · rintro cls d σ' H' ⟨i, dd, part, hi, rfl, rfl, hdd, hxd, oc, hq⟩ hl
      refine ⟨true, EK.ex i hi, nofun, fun _ a _ => ⟨.ref a, ?_, ?_⟩⟩
      · match σ', hl with
        | [y0, y1, y2, y3, y4, y5, y6], _ => rfl
      · match σ', hl with
        | [y0, y1, y2, y3, y4, y5, y6], _ => exact hsem a i dd part H' _ y0 y3 y4 y5 y6 hi hdd hxd oc hq
    · refine h _ _ (fun i dd part H' hi hdd hxd oc hq => ⟨i, dd, part, hi, rfl, rfl, hdd, hxd, oc, hq⟩) fun v H' hq => ?_
      exact ⟨.non, rfl, rfl, true, rfl, hq⟩
end
end K81
namespace K81
open PySem PySem.Spec PyProof.Rows L2

section
variable {P : Program} {w : World} {K : PySem.W.Frag} {mg : Str → Option Value} {base : Heap}
def codeOk (l r g i f w : PyData) : Bool := withinD l (.int 1) (.int 8) && withinD r (.int 0) (.int 1000) && withinD g (.int 3) (.int 16) && namesD i && funsD (fixD f) (intOf g) && rowsD (fixD w) (intOf g) (itemsOf (fixD f)) true
theorem codeBad_none {CN CC : Addr} {l r g i f w : PyData} (h : codeOk l r g i f w = true) : codeBad CN CC l r g i f w = none := by
  unfold codeOk at h
  rw [Bool.and_eq_true, Bool.and_eq_true, Bool.and_eq_true, Bool.and_eq_true, Bool.and_eq_true] at h
  obtain ⟨⟨⟨⟨⟨h1, h2⟩, h3⟩, h4⟩, h5⟩, h6⟩ := h
  unfold codeBad numBad inBad fnBad rwBad
  rw [h1, h2, h3, h4, h5, h6]
  rfl
/-- what the arguments of Code(..) must be like -/
structure CodeArgs (i f w : PyData) : Prop where
  si : smallQ i
  sf : smallD f = true
  df : f.depth ≤ 20
  tri : triHead (fixD f)
  sw : smallD w = true
  dw : w.depth ≤ 20
section
variable {Z : List Addr} {σ : L2.St} {G H : Hp} {tas : TA} {l r g i f w d : PyData} {C CN CC : Addr} {Q : VK} {E : XK} {j : Nat} {rest : TS}
/-- Code(..), all arguments data -/
theorem sem_make (o : Occ Z H) (ha : EvA K Z tas σ (hid Z H) [l, r, g, i, f, w]) (A : CodeArgs i f w) (q : codeBad CN CC l r g i f w = none → ∀ x H2, Same H H2 → x ∉ Z → InsD K C (hid Z H2) x (codeF l r g (tupD i) (fixD f) (fixD w)) → Q (.ref x) H2)
    (q2 : ∀ Cx p, codeBad CN CC l r g i f w = some (Cx, p) → ∀ d H2, Same H H2 → H2 d = some (.xd [("part", .str p)]) → E (.ref Cx) (some d) H2) : tMake C (spCode K C CN CC) [] E tas σ H Q := ha H (Same.refl _) o _ fun vs H1 s1 dvs => by
  intro x dx hx hd hne
  cases dvs with | cons d1 t => cases t with | cons d2 t => cases t with | cons d3 t => cases t with | cons d4 t => cases t with | cons d5 t => cases t with | cons d6 t =>
  cases t
  exact ⟨Z, x, dx, H1, _, _, _, _, _, _, l, r, g, i, f, w, rfl, hx, hd, hne, rfl, o.same s1, d1, d2, d3, .inl d4, d5, d6, A.si, A.sf, A.df, A.tri, A.sw, A.dw, fun e H' s2 hxZ hI => ⟨rfl, q e x H' (s1.trans s2) hxZ hI⟩, fun Cx p e d H' s2 hxd => q2 Cx p e d H' (s1.trans s2) hxd⟩
theorem make_mono {H1 : Hp} (o : Occ Z H1) (s : Same G (hid Z H1)) (ha : EvA K Z tas σ G [l, r, g, i, f, w]) : EvA K Z tas σ (hid Z H1) [l, r, g, i, f, w] := fun H2 s2 o2 Q q => ha H2 (s.trans s2) o2 Q q
theorem sr_make (ha : EvA K Z tas σ G [l, r, g, i, f, w]) (A : CodeArgs i f w) (ok : codeOk l r g i f w = true) (h2 : ∀ x G', Same G G' → InsD K C G' x (codeF l r g (tupD i) (fixD f) (fixD w)) → SR K Z rest (σ.set j (some (.ref x))) G' d) :
    SR K Z (tSeq (tAsg (tMake C (spCode K C CN CC) [] E0 tas) (gName j)) rest) σ G d := fun H1 s o D q => by
  have nb : codeBad CN CC l r g i f w = none := codeBad_none ok
  exact set_cps <| sem_make o (make_mono o s ha) A (fun _ x H2 s2 hx hI => h2 x (hid Z H2) (s.trans (same_hid s2)) hI H2 (Same.refl _) (o.same s2) _ fun v H3 s3 dv => q v H3 (s2.trans s3) dv) fun Cx p e => by rw [nb] at e; cases e
theorem ev_makefld {fn : Str} (c : Cls K C) (n : NoAttr K C fn) (ha : EvA K Z tas σ G [l, r, g, i, f, w]) (A : CodeArgs i f w) (ok : codeOk l r g i f w = true) (hf : (codeF l r g (tupD i) (fixD f) (fixD w)).lookup fn = some d) :
    Ev K Z (tFld K (tMake C (spCode K C CN CC) [] E0 tas) fn) σ G d := fun H1 s o Q q => by
  have nb : codeBad CN CC l r g i f w = none := codeBad_none ok
  refine sem_make o (make_mono o s ha) A (fun _ x H2 s2 hx hI => ?_) fun Cx p e => by rw [nb] at e; cases e
  obtain ⟨dx, fs, e, rr⟩ := hI
  obtain ⟨v, hl, dv⟩ := rr.lookup hf
  exact ⟨x, C, dx, fs, v, rfl, hid_sub _ _ e, c, n, hl, q v H2 s2 dv⟩
end

def letRows (m : Int) : List PyData := [.tuple [.str "number", .int (m - 1), .int 2147483647], .tuple [.str "number", .int 0, .int (-2147483647)], .tuple [.str "name", .int 0, .str "a2345678"], .tuple [.str "shl 31", .int 0, .int (m - 1)], .tuple [.str "store", .int 999, .int 0], .tuple [.str "load", .int 0, .int 999]] ++ [.tuple [.str "spend"], .tuple [.str "go", .int 6], .tuple [.str "unless", .int (m - 1), .int 6], .tuple [.str "go", .int 11], .tuple [.str "if", .int 0, .int 0, .int 0, .int 0], .tuple [.str "call f 5", .int 0], .tuple [.str "loop g 0", .int 0]]
def letFuns : PyData := .list [.tuple [.str "f", .list [.str "a", .str "b", .str "c", .str "d", .str "e", .str "g"], .list (List.replicate 6 [.list []]).flatten], .tuple [.str "g", .list [.str "x"], .list [.list [.tuple [.str "loop f 5", .int 0]]]]]
def letIns : PyData := .list [.str "a", .str "b", .str "c", .str "d", .str "e", .str "f1"]
theorem let_ok : ∀ m : Int, 3 ≤ m → m ≤ 16 → codeOk (.int 8) (.int 1000) (.int m) letIns letFuns (.list ((letRows m).map fun d => .list (itemsOf d))) = true ∧ CodeArgs letIns letFuns (.list ((letRows m).map fun d => .list (itemsOf d))) ∧
    (fixD (.list ((letRows m).map fun d => .list (itemsOf d))) = .tuple (letRows m)) ∧ PyData.eqv (.tuple (letRows m)) (.tuple (letRows m)) = true ∧ smallD (.tuple (letRows m)) = true ∧ (PyData.tuple (letRows m)).depth ≤ 20 := by
  have key : ∀ k : Fin 14, codeOk (.int 8) (.int 1000) (.int (3 + (k : Nat))) letIns letFuns (.list ((letRows (3 + (k : Nat))).map fun d => .list (itemsOf d))) = true ∧
      (smallD (.list ((letRows (3 + (k : Nat))).map fun d => .list (itemsOf d))) = true ∧ (PyData.list ((letRows (3 + (k : Nat))).map fun d => .list (itemsOf d))).depth ≤ 20) ∧ PyData.eqv (.tuple (letRows (3 + (k : Nat)))) (.tuple (letRows (3 + (k : Nat)))) = true ∧ smallD (.tuple (letRows (3 + (k : Nat)))) = true ∧ (PyData.tuple (letRows (3 + (k : Nat)))).depth ≤ 20 := by decide +kernel
  intro m h1 h2
  obtain ⟨k, hk, rfl⟩ : ∃ k : Nat, k < 14 ∧ m = 3 + k := ⟨(m - 3).toNat, by omega, by omega⟩
  obtain ⟨a1, ⟨a2, a3⟩, a4, a5, a6⟩ := key ⟨k, hk⟩
  refine ⟨a1, ⟨.inl (by decide +kernel), by decide +kernel, by decide +kernel, ?_, a2, a3⟩, ?_, a4, a5, a6⟩
  · show ([fixD _, fixD _] : List PyData).length ≤ 8 → ∀ f ∈ ([fixD _, fixD _] : List PyData).dropLast, isTri f = true
    intro _ f hf
    obtain rfl := List.mem_singleton.mp hf
    decide +kernel
  · rfl
theorem let8_ok : ∀ m : Int, 3 ≤ m → m ≤ 16 → codeOk (.int 1) (.int 0) (.int m) (.list []) (.list ((rngD 0 8).map fAt)) (.list [.tuple [.str "go", .int 1]]) = true ∧ CodeArgs (.list []) (.list ((rngD 0 8).map fAt)) (.list [.tuple [.str "go", .int 1]]) := by
  have key : ∀ k : Fin 14, codeOk (.int 1) (.int 0) (.int (3 + (k : Nat))) (.list []) (.list ((rngD 0 8).map fAt)) (.list [.tuple [.str "go", .int 1]]) = true := by decide +kernel
  intro m h1 h2
  obtain ⟨k, hk, rfl⟩ : ∃ k : Nat, k < 14 ∧ m = 3 + k := ⟨(m - 3).toNat, by omega, by omega⟩
  refine ⟨key ⟨k, hk⟩, .inl (by decide +kernel), by decide +kernel, by decide +kernel, ?_, by decide +kernel, by decide +kernel⟩
  have e : fixD (.list ((rngD 0 8).map fAt)) = .tuple (((rngD 0 8).map fAt).map fixD) := fixD_list _
  rw [e]
  intro _ f hf
  have h : ((((rngD 0 8).map fAt).map fixD).dropLast.all isTri) = true := by decide +kernel
  exact List.all_eq_true.mp h f hf
theorem let_tup {m : Int} : ∀ d ∈ letRows m, ∃ xs, d = .tuple xs := fun d h => by
  unfold letRows at h
  simp only [List.mem_append, List.mem_cons, List.not_mem_nil, or_false] at h
  rcases h with (h | h | h | h | h | h) | h | h | h | h | h | h | h <;> exact ⟨_, h⟩
def spLet (K : PySem.W.Frag) : Sp := fun vs H Q _ => ∃ (Z : List Addr) (v : V) (m : Int), vs = [v, .int m] ∧ 3 ≤ m ∧ m ≤ 16 ∧ Occ Z H ∧ ∀ H', Same H H' → Q (.bl true) H'
def N__law_let : List Str := ["_law_pen_here", "_law_many", "_law_rows", "_law_functions", "_law_code", "_law_row", "_law_at"]
theorem sc_let : FnScope N__law_let ["_law_pen_here", "_law_many"] (defScope s__law_let) := ⟨rfl, rfl, rfl, by decide +kernel, rfl, by decide +kernel, by decide +kernel⟩
theorem ok_let {C CN CC fc : Addr} {fdc : FuncData} (A0 : At K mg "_law_let" s__law_let ["_law_pen_here", "_law_many"]) (T : Tx w K mg) (CK : CodeK K mg C) (M_Code : Mk K C fc) (b_Code : Binds K fdc ["self", "least", "rounds", "registers", "inputs", "functions", "rows"] []) (F_Code : FnOk P w K mg base (L2.CX P w) 23 fc fdc ["self", "least", "rounds", "registers", "inputs", "functions", "rows"] (spCode K C CN CC)) :
    DfX P w K mg base "_law_let" 25 ["_law_pen_here", "_law_many"] (spLet K) := by
  obtain ⟨f, fd, g, F, b⟩ := A0.ex
  refine ⟨f, fd, g, F.kp, b, F.okX sc_let (fun vs H Q E h => ?_) (fun cdv A outer s H vs Q E hr h => ?_)⟩
  · obtain ⟨Z, v, m, rfl, _⟩ := h; rfl
  have nd := sc_let.nd
  have g_Code := CK.g
  refine ⟨_, (pss_cons (ps_set (i := 2) nd rfl (Or.inl rfl) (pe_lst (pa_cons (pe_tup (pa_cons pe_str (pa_cons (pe_op op_sub (pv 1) pe_int) (pa_cons pe_int pa_nil)))) (pa_cons (pe_tup (pa_cons pe_str (pa_cons pe_int (pa_cons (pe_un un_neg pe_int) pa_nil)))) (pa_cons (pe_tup (pa_cons pe_str (pa_cons pe_int (pa_cons pe_str pa_nil)))) (pa_cons (pe_tup (pa_cons pe_str (pa_cons pe_int (pa_cons (pe_op op_sub (pv 1) pe_int) pa_nil)))) (pa_cons (pe_tup (pa_cons pe_str (pa_cons pe_int (pa_cons pe_int pa_nil)))) (pa_cons (pe_tup (pa_cons pe_str (pa_cons pe_int (pa_cons pe_int pa_nil)))) pa_nil))))))))
    (pss_cons (ps_set (i := 2) nd rfl (Or.inl rfl) (pe_op op_cat (pv 2) (pe_lst (pa_cons (pe_tup (pa_cons pe_str pa_nil)) (pa_cons (pe_tup (pa_cons pe_str (pa_cons pe_int pa_nil))) (pa_cons (pe_tup (pa_cons pe_str (pa_cons (pe_op op_sub (pv 1) pe_int) (pa_cons pe_int pa_nil)))) (pa_cons (pe_tup (pa_cons pe_str (pa_cons pe_int pa_nil))) (pa_cons (pe_tup (pa_cons pe_str (pa_cons pe_int (pa_cons pe_int (pa_cons pe_int (pa_cons pe_int pa_nil)))))) (pa_cons (pe_tup (pa_cons pe_str (pa_cons pe_int pa_nil))) (pa_cons (pe_tup (pa_cons pe_str (pa_cons pe_int pa_nil))) pa_nil))))))))))
    (pss_cons (ps_set (i := 3) nd rfl (Or.inl rfl) (pe_lst (pa_cons (pe_tup (pa_cons pe_str (pa_cons (pe_lst (pa_cons pe_str (pa_cons pe_str (pa_cons pe_str (pa_cons pe_str (pa_cons pe_str (pa_cons pe_str pa_nil))))))) (pa_cons (pe_op op_rep (pe_lst (pa_cons (pe_lst pa_nil) pa_nil)) pe_int) pa_nil)))) (pa_cons (pe_tup (pa_cons pe_str (pa_cons (pe_lst (pa_cons pe_str pa_nil)) (pa_cons (pe_lst (pa_cons (pe_lst (pa_cons (pe_tup (pa_cons pe_str (pa_cons pe_int pa_nil))) pa_nil)) pa_nil)) pa_nil)))) pa_nil))))
    (pss_cons (ps_set (i := 4) nd rfl (Or.inl rfl) (pe_make M_Code F_Code (hr.mono (by decide)) (by rfl) g_Code b_Code .nil passL (pa_cons pe_int (pa_cons pe_int (pa_cons (pv 1) (pa_cons (pe_lst (pa_cons pe_str (pa_cons pe_str (pa_cons pe_str (pa_cons pe_str (pa_cons pe_str (pa_cons pe_str pa_nil))))))) (pa_cons (pv 3) (pa_cons (pe_lc (own := [("_law_row", 5)]) rfl nd (pi_list (pv 2)) (blkOk_by (N := N__law_let) (sc := defScope s__law_let) (by decide +kernel)) (fun _ _ _ _ _ => (pg_name (i := 5) nd rfl (Or.inl rfl))) (fun _ _ _ _ _ => pts_nil) (fun _ _ _ _ _ => (pe_callTy (r := fun xs H Q => ∃ p ys, xs = [.ref p] ∧ (SqL K H p ys ∨ SqT K H p ys) ∧ ∀ l, H l = none → Q (.ref l) (upd H l (.lst ys))) call_list_of (by rfl) T.b_list boot_list (pa_cons (pv 5) pa_nil)))) pa_nil))))))))
    (pss_one (ps_ret (pe_and (pe_cmpR (r := rEqD K) (op_eqD hr.units) (pe_fldK K rfl (pv 4) rfl) (pe_callTy (r := fun xs H Q => ∃ p ys, xs = [.ref p] ∧ ((SqL K H p ys ∧ ∀ l, H l = none → Q (.ref l) (upd H l (.tup ys))) ∨ (SqT K H p ys ∧ Q (.ref p) H))) call_tuple_of (by rfl) T.b_tuple boot_tuple (pa_cons (pv 2) pa_nil)) (nomark _)) (pe_one (pe_cmpR op_eq (pe_callB (r := fun xs H Q => ∃ x n, xs = [x] ∧ LenV K x H n ∧ Q (.int n) H) call_len (by rfl) T.b_len PySem.boot_len (pa_cons (pe_fldK K rfl (pe_make M_Code F_Code (hr.mono (by decide)) (by rfl) g_Code b_Code .nil passL (pa_cons pe_int (pa_cons pe_int (pa_cons (pv 1) (pa_cons (pe_lst pa_nil) (pa_cons (pe_lc (own := [("_law_at", 6)]) rfl nd (pi_range1 (by rfl) T.b_range (pa_cons pe_int pa_nil)) (blkOk_by (N := N__law_let) (sc := defScope s__law_let) (by decide +kernel)) (fun _ _ _ _ _ => (pg_name (i := 6) nd rfl (Or.inl rfl))) (fun _ _ _ _ _ => pts_nil) (fun _ _ _ _ _ => (pe_tup (pa_cons (pe_joined (.cons pe_str (.cons (pe_fmt (pv 6)) .nil))) (pa_cons (pe_lst pa_nil) (pa_cons (pe_lst (pa_cons (pe_lst pa_nil) pa_nil)) pa_nil)))))) (pa_cons (pe_lst (pa_cons (pe_tup (pa_cons pe_str (pa_cons pe_int pa_nil))) pa_nil)) pa_nil))))))) rfl) pa_nil)) pe_int (nomark _)))))))))), ?_⟩
  obtain ⟨Z, v, m, rfl, m0, m1, o, q⟩ := h
  obtain ⟨h1, h2, h3, h4, h5, h6⟩ := let_ok m m0 m1
  obtain ⟨h7, h8⟩ := let8_ok m m0 m1
  refine sr_run (K := K) (d := .bool true) o (fun v H2 s2 dv => by rw [dv.bl_inv]; exact q H2 s2) ?_
  refine sr_set (ev_lst (eva_cons (ev_tup (eva_cons ev_str (eva_cons (ev_op (ev_var (i := 1) rfl (.int m)) ev_int (rd_i0 fun _ => .int _)) (eva_cons ev_int eva_nil))) (line1000 (Nat.le_of_ble_eq_true rfl))) (eva_cons (ev_tup (eva_cons ev_str (eva_cons ev_int (eva_cons (ev_neg ev_int) eva_nil))) (line1000 (Nat.le_of_ble_eq_true rfl))) (eva_cons (ev_tup (eva_cons ev_str (eva_cons ev_int (eva_cons ev_str eva_nil))) (line1000 (Nat.le_of_ble_eq_true rfl))) (eva_cons (ev_tup (eva_cons ev_str (eva_cons ev_int (eva_cons (ev_op (ev_var (i := 1) rfl (.int m)) ev_int (rd_i0 fun _ => .int _)) eva_nil))) (line1000 (Nat.le_of_ble_eq_true rfl))) (eva_cons (ev_tup (eva_cons ev_str (eva_cons ev_int (eva_cons ev_int eva_nil))) (line1000 (Nat.le_of_ble_eq_true rfl))) (eva_cons (ev_tup (eva_cons ev_str (eva_cons ev_int (eva_cons ev_int eva_nil))) (line1000 (Nat.le_of_ble_eq_true rfl))) eva_nil)))))) (line1000 (Nat.le_of_ble_eq_true rfl))) fun v2 G1 s1 d2 => ?_
  refine sr_set (d1 := .list (letRows m)) (ev_op (ev_var (i := 2) rfl d2) (ev_lst (eva_cons (ev_tup (eva_cons ev_str eva_nil) (line1000 (Nat.le_of_ble_eq_true rfl))) (eva_cons (ev_tup (eva_cons ev_str (eva_cons ev_int eva_nil)) (line1000 (Nat.le_of_ble_eq_true rfl))) (eva_cons (ev_tup (eva_cons ev_str (eva_cons (ev_op (ev_var (i := 1) rfl (.int m)) ev_int (rd_i0 fun _ => .int _)) (eva_cons ev_int eva_nil))) (line1000 (Nat.le_of_ble_eq_true rfl))) (eva_cons (ev_tup (eva_cons ev_str (eva_cons ev_int eva_nil)) (line1000 (Nat.le_of_ble_eq_true rfl))) (eva_cons (ev_tup (eva_cons ev_str (eva_cons ev_int (eva_cons ev_int (eva_cons ev_int (eva_cons ev_int eva_nil))))) (line1000 (Nat.le_of_ble_eq_true rfl))) (eva_cons (ev_tup (eva_cons ev_str (eva_cons ev_int eva_nil)) (line1000 (Nat.le_of_ble_eq_true rfl))) (eva_cons (ev_tup (eva_cons ev_str (eva_cons ev_int eva_nil)) (line1000 (Nat.le_of_ble_eq_true rfl))) eva_nil))))))) (line1000 (Nat.le_of_ble_eq_true rfl))) (rd_cat (Nat.le_of_ble_eq_true rfl))) fun v2 G2 s2 d2 => ?_
  refine sr_set (d1 := letFuns) (ev_lst (eva_cons (ev_tup (eva_cons ev_str (eva_cons (ev_lst (eva_cons ev_str (eva_cons ev_str (eva_cons ev_str (eva_cons ev_str (eva_cons ev_str (eva_cons ev_str eva_nil)))))) (line1000 (Nat.le_of_ble_eq_true rfl))) (eva_cons (ev_op (ev_lst (eva_cons (ev_lst eva_nil (line1000 (Nat.le_of_ble_eq_true rfl))) eva_nil) (line1000 (Nat.le_of_ble_eq_true rfl))) ev_int (rd_rep (m := 6) (by decide) (by decide))) eva_nil))) (line1000 (Nat.le_of_ble_eq_true rfl))) (eva_cons (ev_tup (eva_cons ev_str (eva_cons (ev_lst (eva_cons ev_str eva_nil) (line1000 (Nat.le_of_ble_eq_true rfl))) (eva_cons (ev_lst (eva_cons (ev_lst (eva_cons (ev_tup (eva_cons ev_str (eva_cons ev_int eva_nil)) (line1000 (Nat.le_of_ble_eq_true rfl))) eva_nil) (line1000 (Nat.le_of_ble_eq_true rfl))) eva_nil) (line1000 (Nat.le_of_ble_eq_true rfl))) eva_nil))) (line1000 (Nat.le_of_ble_eq_true rfl))) eva_nil)) (line1000 (Nat.le_of_ble_eq_true rfl))) fun v3 G3 s3 d3 => ?_
  replace d2 := Dx.same s3 _ _ d2
  refine sr_make (eva_cons ev_int (eva_cons ev_int (eva_cons (ev_var (i := 1) rfl (.int m)) (eva_cons (d := letIns) (ev_lst (eva_cons ev_str (eva_cons ev_str (eva_cons ev_str (eva_cons ev_str (eva_cons ev_str (eva_cons ev_str eva_nil)))))) (line1000 (Nat.le_of_ble_eq_true rfl))) (eva_cons (ev_var (i := 3) rfl d3) (eva_cons (ev_lc (f := fun d => .list (itemsOf d)) (evi_list (ev_var (i := 2) rfl d2)) (line1000 (Nat.le_of_ble_eq_true rfl)) fun Z' j d G' hj sG => eg_name fun u G4 s4 du => ⟨rfl, ?_⟩) eva_nil)))))) h2 h1 fun x G4 s4 hI => ?_
  · obtain ⟨xs, rfl⟩ := let_tup d (List.mem_of_getElem? hj)
    exact ev_cb (eva_cons (ev_var rfl du) eva_nil) (rc_listOf (.inr rfl))
  rw [h3] at hI
  refine sr_ret ((ev_andV (b2 := true) (ev_op (ev_fld CK.cls (CK.na "rows" (by simp)) (i := 4) rfl hI rfl) (ev_cb (eva_cons (ev_var (i := 2) rfl (Dx.same s4 _ _ d2)) eva_nil) rc_tupL) (rd_eqD (shaped_small h5 (by omega)) (shaped_small h5 (by omega)))) fun _ => ?_).to (by rw [h4]; rfl))
  refine (ev_op (ev_cb (eva_cons (ev_makefld CK.cls (CK.na "functions" (by simp)) (eva_cons ev_int (eva_cons ev_int (eva_cons (ev_var (i := 1) rfl (.int m)) (eva_cons (ev_lst eva_nil (by decide +kernel)) (eva_cons (ev_fAt (n := 8) (by decide) (fun _ => rfl) (fun _ => rfl)) (eva_cons (ev_lst (eva_cons (ev_tup (eva_cons ev_str (eva_cons ev_int eva_nil)) (line1000 (Nat.le_of_ble_eq_true rfl))) eva_nil) (line1000 (Nat.le_of_ble_eq_true rfl))) eva_nil)))))) h8 h7 rfl) eva_nil) (rc_lenT (ds := ((rngD 0 8).map fAt).map fixD))) ev_int rd_eqI).to ?_
  rw [List.length_map, List.length_map, rngD_length]
  rfl
end
end K81
namespace K81
open PySem PySem.Spec PyProof.Rows L2

/-! plain facts: the code that the law draws is lawful -/
theorem item_r {r m : Int} (h : 0 ≤ r ∧ r < m) : itemD (.str ⟨#[114]⟩) (.int r) m = true := by
  have e : itemD (.str ⟨#[114]⟩) (.int r) m = (decide (0 ≤ r) && decide (r ≤ m - 1)) := rfl
  rw [e, decide_eq_true h.1, decide_eq_true (by omega : r ≤ m - 1)]; rfl
theorem item_n {r m : Int} (h : -2147483647 ≤ r ∧ r ≤ 2147483647) : itemD (.str ⟨#[110]⟩) (.int r) m = true := by
  have e : itemD (.str ⟨#[110]⟩) (.int r) m = (decide (-2147483647 ≤ r) && decide (r ≤ 2147483647)) := rfl
  rw [e, decide_eq_true h.1, decide_eq_true h.2]; rfl
theorem item_c {r m : Int} (h : 0 ≤ r ∧ r ≤ 999) : itemD (.str ⟨#[99]⟩) (.int r) m = true := by
  have e : itemD (.str ⟨#[99]⟩) (.int r) m = (decide (0 ≤ r) && decide (r ≤ 999)) := rfl
  rw [e, decide_eq_true h.1, decide_eq_true h.2]; rfl
theorem item_w {r m : Int} (h : 0 ≤ r) : itemD (.str ⟨#[119]⟩) (.int r) m = true := by
  have e : itemD (.str ⟨#[119]⟩) (.int r) m = (decide (0 ≤ r) && true) := rfl
  rw [e, decide_eq_true h]; rfl
theorem item_x {d : PyData} {m : Int} (h : nameD d = true) : itemD (.str ⟨#[120]⟩) d m = true := by
  have e : itemD (.str ⟨#[120]⟩) d m = nameD d := rfl
  rw [e, h]
theorem row_of {x form : Str} {r fs : List PyData} {m : Int} {deed : Bool} (h : formD x fs = .str form) (hl : form.length = r.length) (hd : (deedWord x && !deed) = false) (hz : (zipD form r).all (itemP m) = true) : rowD (.tuple (.str x :: r)) m fs deed = true := by
  rw [rowD_eq h, hd, hz, decide_eq_true hl]; rfl
theorem mul2 : Txt.mul "r" (((1 : Nat) : Int) + 1) = "rr" := by decide +kernel
theorem mul3 : Txt.mul "r" (((2 : Nat) : Int) + 1) = "rrr" := by decide +kernel
theorem mul4 : Txt.mul "r" (((3 : Nat) : Int) + 1) = "rrrr" := by decide +kernel
theorem form2 {x : Str} {fs : List PyData} (hx : x ∈ (["neg", "flip", "at", "no", "shl 1", "shl 2", "shl 31"] : List Str)) : formD x fs = .str "rr" := by
  have key : ∀ {x : Str} {a b : PyData}, tab_FORMS.lookup x = none → shapeD (.str x) = .tuple [a, .tuple [b]] → formD x fs = .str "rr" := fun q h => by
    rw [form_sh q h]; exact congrArg _ mul2
  simp only [List.mem_cons, List.not_mem_nil, or_false] at hx
  rcases hx with rfl | rfl | rfl | rfl | rfl | rfl | rfl
  · exact key (a := .str "word") (b := .str "word") rfl (shape_some rfl)
  · exact key (a := .str "word") (b := .str "word") rfl (shape_some rfl)
  · exact key (a := .str "word") (b := .str "word") rfl (shape_some rfl)
  · exact key (a := .str "truth") (b := .str "truth") rfl (shape_some rfl)
  · exact key (a := .str "word") (b := .str "word") rfl ((shape_no rfl).trans (if_pos (by decide +kernel)))
  · exact key (a := .str "word") (b := .str "word") rfl ((shape_no rfl).trans (if_pos (by decide +kernel)))
  · exact key (a := .str "word") (b := .str "word") rfl ((shape_no rfl).trans (if_pos (by decide +kernel)))
theorem form3 {x : Str} {fs : List PyData} (hx : x ∈ (["add", "sub", "mul", "and", "or", "xor", "eq", "lt", "less", "both", "either"] : List Str)) : formD x fs = .str "rrr" := by
  have key : ∀ {x : Str} {a b c : PyData}, tab_FORMS.lookup x = none → shapeD (.str x) = .tuple [a, .tuple [b, c]] → formD x fs = .str "rrr" := fun q h => by
    rw [form_sh q h]; exact congrArg _ mul3
  simp only [List.mem_cons, List.not_mem_nil, or_false] at hx
  rcases hx with rfl | rfl | rfl | rfl | rfl | rfl | rfl | rfl | rfl | rfl | rfl
  · exact key (a := .str "word") (b := .str "word") (c := .str "word") rfl (shape_some rfl)
  · exact key (a := .str "word") (b := .str "word") (c := .str "word") rfl (shape_some rfl)
  · exact key (a := .str "word") (b := .str "word") (c := .str "word") rfl (shape_some rfl)
  · exact key (a := .str "word") (b := .str "word") (c := .str "word") rfl (shape_some rfl)
  · exact key (a := .str "word") (b := .str "word") (c := .str "word") rfl (shape_some rfl)
  · exact key (a := .str "word") (b := .str "word") (c := .str "word") rfl (shape_some rfl)
  · exact key (a := .str "truth") (b := .str "word") (c := .str "word") rfl (shape_some rfl)
  · exact key (a := .str "truth") (b := .str "word") (c := .str "word") rfl (shape_some rfl)
  · exact key (a := .str "truth") (b := .str "word") (c := .str "word") rfl (shape_some rfl)
  · exact key (a := .str "truth") (b := .str "truth") (c := .str "truth") rfl (shape_some rfl)
  · exact key (a := .str "truth") (b := .str "truth") (c := .str "truth") rfl (shape_some rfl)
theorem form_if {fs : List PyData} : formD "if" fs = .str "rrrr" := by
  rw [form_sh (ws := [.str "truth", .str "word", .str "word"]) (a := .str "word") rfl (shape_some rfl)]; exact congrArg _ mul4
/-- labels that are called here -/
def callable (fs : List PyData) (c : PyData) : Prop := ∃ x, c = .str x ∧ formD x fs = .str "r" ∧ deedWord x = false ∧ goWord x = false
theorem all2t {a b : PyData} {p : PyData → Bool} (ha : p a = true) (hb : p b = true) : ([a, b] : List PyData).all p = true := by simp [ha, hb]
theorem all1t {a : PyData} {p : PyData → Bool} (ha : p a = true) : ([a] : List PyData).all p = true := by simp [ha]
theorem all3t {a b c : PyData} {p : PyData → Bool} (ha : p a = true) (hb : p b = true) (hc : p c = true) : ([a, b, c] : List PyData).all p = true := by simp [ha, hb, hc]
theorem all4t {a b c d : PyData} {p : PyData → Bool} (ha : p a = true) (hb : p b = true) (hc : p c = true) (hd : p d = true) : ([a, b, c, d] : List PyData).all p = true := by simp [ha, hb, hc, hd]
/-- a plain row is lawful, leads nowhere, and is a tuple with a text ahead -/
theorem plain_row {m : Int} {names calls fs : List PyData} {deed : Bool} {d : PyData} (hn : ∀ x ∈ names, nameD x = true) (hc : ∀ c ∈ calls, callable fs c) (h : plainOk m names calls d) : rowD d m fs deed = true ∧ ∃ x t, d = .tuple (.str x :: t) ∧ goWord x = false := by
  obtain ⟨r0, r1, r2, r3, h0, h1, h2, h3, h⟩ := h
  rcases h with ⟨k, hk, rfl⟩ | ⟨x, hx, rfl⟩ | rfl | rfl | rfl | ⟨k, hk, rfl⟩ | rfl | ⟨k, hk, rfl⟩ | ⟨x, hx, rfl⟩ | ⟨x, hx, rfl⟩ | rfl | ⟨x, hx, rfl⟩
  · refine ⟨row_of (form := "rn") (form_some rfl) rfl (by cases deed <;> rfl) (all2t (item_r h0) (item_n (m := m) ?_)), _, _, rfl, rfl⟩
    simp only [List.mem_cons, List.not_mem_nil, or_false] at hk
    omega
  · refine ⟨row_of (form := "rx") (form_some rfl) rfl (by cases deed <;> rfl) (all2t (item_r h0) (item_x (m := m) ?_)), _, _, rfl, rfl⟩
    rcases List.mem_append.mp hx with hx | hx
    · exact hn x hx
    · rw [List.mem_singleton.mp hx]; decide +kernel
  · exact ⟨row_of (form := "r") (form_some rfl) rfl (by cases deed <;> rfl) (all1t (item_r h0)), _, _, rfl, rfl⟩
  · exact ⟨row_of (form := "r") (form_some rfl) rfl (by cases deed <;> rfl) (all1t (item_r h0)), _, _, rfl, rfl⟩
  · exact ⟨row_of (form := "") (form_some rfl) rfl (by cases deed <;> rfl) rfl, _, _, rfl, rfl⟩
  · refine ⟨row_of (form := "cr") (form_some rfl) rfl (by cases deed <;> rfl) (all2t (item_c (m := m) ?_) (item_r h0)), _, _, rfl, rfl⟩
    simp only [List.mem_cons, List.not_mem_nil, or_false] at hk
    omega
  · exact ⟨row_of (form := "r") (form_some rfl) rfl (by cases deed <;> rfl) (all1t (item_r h0)), _, _, rfl, rfl⟩
  · refine ⟨row_of (form := "rc") (form_some rfl) rfl (by cases deed <;> rfl) (all2t (item_r h0) (item_c (m := m) ?_)), _, _, rfl, rfl⟩
    simp only [List.mem_cons, List.not_mem_nil, or_false] at hk
    omega
  · obtain ⟨y, rfl, f1, f2, f3⟩ := hc x hx
    exact ⟨row_of f1 rfl (by rw [f2]; rfl) (all1t (item_r h0)), _, _, rfl, f3⟩
  · refine ⟨row_of (form2 hx) rfl ?_ (all2t (item_r h0) (item_r h1)), _, _, rfl, ?_⟩
    all_goals
      simp only [List.mem_cons, List.not_mem_nil, or_false] at hx
      rcases hx with rfl | rfl | rfl | rfl | rfl | rfl | rfl <;> first | rfl | (cases deed <;> rfl)
  · exact ⟨row_of form_if rfl (by cases deed <;> rfl) (all4t (item_r h0) (item_r h1) (item_r h2) (item_r h3)), _, _, rfl, rfl⟩
  · refine ⟨row_of (form3 hx) rfl ?_ (all3t (item_r h0) (item_r h1) (item_r h2)), _, _, rfl, ?_⟩
    all_goals
      simp only [List.mem_cons, List.not_mem_nil, or_false] at hx
      rcases hx with rfl | rfl | rfl | rfl | rfl | rfl | rfl | rfl | rfl | rfl | rfl <;> first | rfl | (cases deed <;> rfl)

theorem leads_no {rs : List PyData} {i : Nat} {x : Str} {t : List PyData} (h : rs[i]? = some (.tuple (.str x :: t))) (hg : goWord x = false) : leadD rs i = true := by
  show leadOf rs (i : Nat) (rs.getD i .none) = true
  rw [List.getD_eq_getElem?_getD, h]
  exact leadOf_no hg
theorem leadAll {rs : List PyData} (h : ∀ i, i < rs.length → leadD rs i = true) : (rngD 0 rs.length).all (leadP rs) = true := by
  rw [List.all_eq_true]
  intro p hp
  unfold rngD at hp
  obtain ⟨i, hi, rfl⟩ := List.mem_map.mp hp
  rw [Int.zero_add]
  exact h i (List.mem_range.mp hi)
theorem rows_of {rs fs : List PyData} {m : Int} {deed : Bool} (h1 : ∀ r ∈ rs, rowD r m fs deed = true) (h2 : ∀ i, i < rs.length → leadD rs i = true) : rowsD (.tuple rs) m fs deed = true := by
  show (rs.all (fun r => rowD r m fs deed) && (rngD 0 rs.length).all (leadP rs)) = true
  rw [List.all_eq_true.mpr h1, leadAll h2]; rfl
theorem plain_rows {rs fs : List PyData} {m : Int} {names calls : List PyData} {deed : Bool} (hn : ∀ x ∈ names, nameD x = true) (hc : ∀ c ∈ calls, callable fs c) (h : ∀ r ∈ rs, plainOk m names calls r) : rowsD (.tuple rs) m fs deed = true :=
  rows_of (fun r hr => (plain_row hn hc (h r hr)).1) fun i hi => by
    obtain ⟨_, x, t, e, hg⟩ := plain_row (deed := deed) hn hc (h _ (List.getElem_mem hi))
    exact leads_no (by rw [List.getElem?_eq_getElem hi, e]) hg
theorem deed_row {m : Int} {names calls fs rs : List PyData} {i size : Nat} {d : PyData} (hi : i < rs.length) (hl : rs.length = size) (hd : rs[i]? = some d) (hn : ∀ x ∈ names ++ [.str "z"], nameD x = true) (hc : ∀ c ∈ calls, callable fs c) (h : deedOk m names calls rs i size d) : rowD d m fs true = true ∧ leadD rs i = true := by
  obtain ⟨x, one, two, t, hx, h1, h2, ht, h⟩ := h
  have t0 : 0 ≤ t := by rcases ht with ⟨j, rfl, _⟩ | ⟨h, _⟩ <;> omega
  have tl : leadTo rs i t = true := by
    unfold leadTo
    rcases ht with ⟨j, rfl, hj, hs⟩ | ⟨ha, hb⟩
    · rw [Bool.or_eq_true, Bool.and_eq_true, Bool.and_eq_true]
      exact .inr ⟨decide_eq_true (by omega), by rw [Int.toNat_natCast]; exact hs⟩
    · rw [Bool.or_eq_true, Bool.and_eq_true]
      exact .inl ⟨decide_eq_true ha, decide_eq_true (by omega)⟩
  have ld : ∀ {y : Str} {t : List PyData}, d = .tuple (.str y :: t) → leadOf rs (i : Nat) (.tuple (.str y :: t)) = true → leadD rs i = true := fun {y t} e hh => by
    show leadOf rs (i : Nat) (rs.getD i .none) = true
    rw [List.getD_eq_getElem?_getD, hd, e]; exact hh
  rcases h with rfl | rfl | rfl | rfl | rfl | rfl | rfl | h
  · exact ⟨row_of (form := "") (form_some rfl) rfl rfl rfl, ld rfl (leadOf_no rfl)⟩
  · exact ⟨row_of (form := "xr") (form_some rfl) rfl rfl (all2t (item_x (m := m) (hn x hx)) (item_r h1)), ld rfl (leadOf_no rfl)⟩
  · exact ⟨row_of (form := "x") (form_some rfl) rfl rfl (all1t (item_x (m := m) (hn x hx))), ld rfl (leadOf_no rfl)⟩
  · exact ⟨row_of (form := "r") (form_some rfl) rfl rfl (all1t (item_r h1)), ld rfl (leadOf_no rfl)⟩
  · exact ⟨row_of (form := "rr") (form_some rfl) rfl rfl (all2t (item_r h1) (item_r h2)), ld rfl (leadOf_no rfl)⟩
  · exact ⟨row_of (form := "rw") (form_some rfl) rfl rfl (all2t (item_r h1) (item_w (m := m) t0)), ld rfl ((leadOf_yes (k := t) (by decide +kernel) rfl).trans tl)⟩
  · exact ⟨row_of (form := "w") (form_some rfl) rfl rfl (all1t (item_w (m := m) t0)), ld rfl ((leadOf_yes (k := t) (by decide +kernel) rfl).trans tl)⟩
  · obtain ⟨a, y, l, e, hg⟩ := plain_row (deed := true) hn hc h
    exact ⟨a, ld e (leadOf_no hg)⟩
theorem deed_rows {m : Int} {names calls fs rs : List PyData} {size : Nat} (hl : rs.length = size) (hn : ∀ x ∈ names ++ [.str "z"], nameD x = true) (hc : ∀ c ∈ calls, callable fs c) (h : ∀ i e, rs[i]? = some e → deedOk m names calls rs i size e) : rowsD (.tuple rs) m fs true = true :=
  rows_of (fun r hr => by
    obtain ⟨i, hi, rfl⟩ := List.mem_iff_getElem.mp hr
    have e := List.getElem?_eq_getElem hi
    exact (deed_row hi hl e hn hc (h i _ e)).1) fun i hi => by
    have e := List.getElem?_eq_getElem hi
    exact (deed_row hi hl e hn hc (h i _ e)).2
/-! ### functions -/
def tupOf : PyData → PyData
  | .list xs => .tuple xs
  | d => d
def keepF : PyData → PyData
  | .tuple [n, .list ps, .list bs] => .tuple [n, .tuple ps, .tuple (bs.map tupOf)]
  | d => d
theorem split_label {w : Str} {name : Str} {k : Nat} (hw : w = "call " ∨ w = "loop ") (hn : name = "f" ∨ name = "g2") (hk : k < 3) : ∃ a : Str, (a = "call" ∧ w = "call " ∨ a = "loop" ∧ w = "loop ") ∧ Txt.split (callS w name (k : Int)) " " = [a, name, (toString (k : Int) : Str)] := by
  rcases hw with rfl | rfl
  · refine ⟨"call", .inl ⟨rfl, rfl⟩, ?_⟩
    rcases hn with rfl | rfl <;> rcases (by omega : k = 0 ∨ k = 1 ∨ k = 2) with rfl | rfl | rfl <;> decide +kernel
  · refine ⟨"loop", .inr ⟨rfl, rfl⟩, ?_⟩
    rcases hn with rfl | rfl <;> rcases (by omega : k = 0 ∨ k = 1 ∨ k = 2) with rfl | rfl | rfl <;> decide +kernel
theorem told_has {k n : Nat} (hk : k < n) (hn : n ≤ 3) : PyData.eqv (.list (toldD (toString (k : Int)) n)) (.list []) = false := by
  rcases (by omega : n = 1 ∨ n = 2 ∨ n = 3) with rfl | rfl | rfl <;> rcases (by omega : k = 0 ∨ k = 1 ∨ k = 2) with rfl | rfl | rfl <;> first | decide +kernel | omega
theorem called_ok {w name : Str} {k : Nat} {fs ps bs : List PyData} (hw : w = "call " ∨ w = "loop ") (hn : name = "f" ∨ name = "g2") (hk : k < bs.length) (hb : bs.length ≤ 3) (hl : w = "loop " → bs.length = ps.length) (hf : fs.find? (namedD name) = some (.tuple [.str name, .tuple ps, .tuple bs])) :
    callable fs (.str (callS w name (k : Int))) := by
  obtain ⟨a, ha, hs⟩ := split_label hw hn (show k < 3 by omega)
  have hcw : callWord a = true := by rcases ha with ⟨rfl, _⟩ | ⟨rfl, _⟩ <;> decide +kernel
  have hfit : fitsD a ps.length bs.length = true := by
    unfold fitsD
    rcases ha with ⟨rfl, _⟩ | ⟨rfl, e⟩
    · rfl
    · have := hl e
      rw [decide_eq_true (by omega : ((bs.length : Nat) : Int) = (ps.length : Nat)), decide_eq_true (by omega : (0 : Int) < (ps.length : Nat))]; rfl
  have hcd : isNoneD (calledD (callS w name (k : Int)) fs) = false := by
    unfold calledD
    rw [hs]
    show isNoneD (if callWord a = true then (match fs.find? (namedD name) with | some d => calledIn a (toString (k : Int)) d | none => .none) else .none) = false
    rw [if_pos hcw, hf]
    show isNoneD (calledIn a (toString (k : Int)) (.tuple [.str name, .tuple ps, .tuple bs])) = false
    rw [calledIn_eq, told_has hk hb, hfit]
    rfl
  have hF : tab_FORMS.lookup (callS w name (k : Int)) = none ∧ shapeD (.str (callS w name (k : Int))) = .none ∧ deedWord (callS w name (k : Int)) = false ∧ goWord (callS w name (k : Int)) = false := by
    have hkk : k = 0 ∨ k = 1 ∨ k = 2 := by omega
    have sh : ∀ {x : Str}, tab_SHAPES.lookup x = none → decide (0 < bitsI x) = false → shapeD (.str x) = .none := fun q1 q2 => by rw [shape_no q1, q2]; rfl
    rcases hw with rfl | rfl <;> rcases hn with rfl | rfl <;> rcases hkk with rfl | rfl | rfl <;> exact ⟨rfl, sh rfl (by decide +kernel), by decide +kernel, by decide +kernel⟩
  refine ⟨_, rfl, ?_, hF.2.2.1, hF.2.2.2⟩
  rw [form_no hF.1 hF.2.1, hcd]
  rfl
end K81
namespace K81
open PySem PySem.Spec PyProof.Rows L2

/-! plain facts: functions -/
theorem fix_flat {xs : List PyData} (h : (PyData.tuple xs).depth ≤ 1) : fixD (.tuple xs) = .tuple xs := by
  rw [fixD_tuple]
  have hd := depth_tuple (n := 0).mp h
  have : xs.map fixD = xs := by
    refine List.map_congr_left (g := id) (fun x hx => ?_) |>.trans (List.map_id _)
    have := hd x hx
    cases x with
    | list ys => simp [PyData.depth] at this
    | tuple ys => simp [PyData.depth] at this
    | _ => rfl
  rw [this]
theorem plain_tup {m : Int} {names calls : List PyData} {d : PyData} (h : plainOk m names calls d) : ∃ xs, d = .tuple xs := by
  obtain ⟨r0, r1, r2, r3, _, _, _, _, h⟩ := h
  rcases h with ⟨k, hk, rfl⟩ | ⟨x, hx, rfl⟩ | rfl | rfl | rfl | ⟨k, hk, rfl⟩ | rfl | ⟨k, hk, rfl⟩ | ⟨x, hx, rfl⟩ | ⟨x, hx, rfl⟩ | rfl | ⟨x, hx, rfl⟩ <;> exact ⟨_, rfl⟩
theorem plain_fix {m : Int} {names calls : List PyData} {d : PyData} (hn : strsOk names) (hc : strsOk calls) (h : plainOk m names calls d) : fixD d = d := by
  obtain ⟨xs, rfl⟩ := plain_tup h
  exact fix_flat (plain_small hn hc h).2
theorem abc_small (k : Nat) : strsOk (abcD.take k) := fun x hx => by
  have h : x ∈ abcD := List.mem_of_mem_take hx
  unfold abcD at h
  simp only [List.mem_cons, List.not_mem_nil, or_false] at h
  rcases h with rfl | rfl | rfl <;> exact ⟨_, rfl, by decide +kernel⟩
theorem abc_names (k : Nat) : ∀ x ∈ abcD.take k, nameD x = true := fun x hx => by
  have h : x ∈ abcD := List.mem_of_mem_take hx
  unfold abcD at h
  simp only [List.mem_cons, List.not_mem_nil, or_false] at h
  rcases h with rfl | rfl | rfl <;> decide +kernel
theorem abc_len {k : Nat} (h : k ≤ 3) : (abcD.take k).length = k := by
  rcases (by omega : k = 0 ∨ k = 1 ∨ k = 2 ∨ k = 3) with rfl | rfl | rfl | rfl <;> rfl
theorem abc_namesD {k : Nat} (h : k ≤ 3) : namesD (.tuple (abcD.take k)) = true := by
  rcases (by omega : k = 0 ∨ k = 1 ∨ k = 2 ∨ k = 3) with rfl | rfl | rfl | rfl <;> decide +kernel
theorem fname_name (i : Nat) : nameD (.str (fname i)) = true := by
  cases i with
  | zero => exact (by decide +kernel : nameD (.str "f") = true)
  | succ i => exact (by decide +kernel : nameD (.str "g2") = true)
theorem fname_or (i : Nat) : fname i = "f" ∨ fname i = "g2" := by
  cases i with
  | zero => exact .inl rfl
  | succ i => exact .inr rfl
/-- a label of one of the functions F -/
def labelOf (F : List PyData) (c : PyData) : Prop := ∃ (w name : Str) (k : Nat) (ps bs : List PyData), c = .str (callS w name (k : Int)) ∧ (w = "call " ∨ w = "loop ") ∧ (name = "f" ∨ name = "g2") ∧ k < bs.length ∧ bs.length ≤ 3 ∧ (w = "loop " → bs.length = ps.length) ∧ F.find? (namedD name) = some (.tuple [.str name, .tuple ps, .tuple bs])
theorem labelOf_app {F G : List PyData} {c : PyData} (h : labelOf F c) : labelOf (F ++ G) c := by
  obtain ⟨w, name, k, ps, bs, h1, h2, h3, h4, h5, h6, h7⟩ := h
  exact ⟨w, name, k, ps, bs, h1, h2, h3, h4, h5, h6, by rw [List.find?_append, h7]; rfl⟩
theorem labelOf_call {F : List PyData} {c : PyData} (h : labelOf F c) : callable F c := by
  obtain ⟨w, name, k, ps, bs, rfl, h2, h3, h4, h5, h6, h7⟩ := h
  exact called_ok h2 h3 h4 h5 h6 h7
structure GoodF (m : Int) (i : Nat) (fs cs : List PyData) : Prop where
  len : (fs.map keepF).length = i
  nm : ∀ (j : Nat) (d : PyData), (fs.map keepF)[j]? = some d → ∃ ps bs, d = .tuple [.str (fname j), .tuple ps, .tuple bs]
  fix : fs.map fixD = fs.map keepF
  fn : ∀ (j : Nat) (d : PyData), (fs.map keepF)[j]? = some d → funD d m ((fs.map keepF).take j) = true
  lab : ∀ c ∈ cs, labelOf (fs.map keepF) c
  small : ∀ f ∈ fs, smallD f = true ∧ f.depth ≤ 5
  tri : ∀ f ∈ fs.map keepF, isTri f = true
theorem good_step {m : Int} {i : Nat} {fs cs fs' cs' : List PyData} (hi : i ≤ 1) (hch : FChain m i fs cs) (g : GoodF m i fs cs) (h : FStep m (fname i) fs cs fs' cs') : GoodF m (i + 1) fs' cs' := by
  obtain ⟨k, bl, hk, b1, b3, hrows, rfl, rfl⟩ := h
  obtain ⟨_, _, c3⟩ := chain_small hch
  have hnew : ([PyData.tuple [.str (fname i), .list (abcD.take k), .list bl]] : List PyData).map keepF = [.tuple [.str (fname i), .tuple (abcD.take k), .tuple (bl.map tupOf)]] := rfl
  have hall : (fs ++ [PyData.tuple [.str (fname i), .list (abcD.take k), .list bl]]).map keepF = fs.map keepF ++ [PyData.tuple [.str (fname i), .tuple (abcD.take k), .tuple (bl.map tupOf)]] := by rw [List.map_append, hnew]
  have hlen : fs.length = i := by have := g.len; rwa [List.length_map] at this
  have hno : ∀ d ∈ fs.map keepF, namedD (fname i) d = false ∧ sameName (.str (fname i)) d = false := fun d hd => by
    obtain ⟨j, hj, rfl⟩ := List.mem_iff_getElem.mp hd
    obtain ⟨ps, bs, e⟩ := g.nm j _ (List.getElem?_eq_getElem hj)
    rw [g.len] at hj
    have : i = 1 ∧ j = 0 := by omega
    obtain ⟨rfl, rfl⟩ := this
    rw [e]
    exact ⟨(by decide +kernel : PyData.eqv (.str "f") (.str "g2") = false), (by decide +kernel : PyData.eqv (.str "g2") (.str "f") = false)⟩
  have hblk : ∀ b ∈ bl, ∃ rows, b = .list rows ∧ rows.length ≤ 6 ∧ ∀ r ∈ rows, plainOk m (abcD.take k) cs r := hrows
  have hfun : funD (.tuple [.str (fname i), .tuple (abcD.take k), .tuple (bl.map tupOf)]) m (fs.map keepF) = true := by
    rw [funD_eq, fname_name, abc_namesD hk]
    have h1 : (fs.map keepF).any (sameName (.str (fname i))) = false := List.any_eq_false.mpr fun d hd => by rw [(hno d hd).2]; simp
    rw [h1]
    show (decide (1 ≤ (bl.map tupOf).length) && decide ((bl.map tupOf).length ≤ 6) && (bl.map tupOf).all fun b => rowsD b m (fs.map keepF) false) = true
    rw [List.length_map, decide_eq_true b1, decide_eq_true (by omega : bl.length ≤ 6), Bool.true_and, Bool.true_and, List.all_eq_true]
    intro b hb
    obtain ⟨b0, hb0, rfl⟩ := List.mem_map.mp hb
    obtain ⟨rows, rfl, _, hr⟩ := hblk b0 hb0
    exact plain_rows (abc_names k) (fun c hc => labelOf_call (g.lab c hc)) hr
  have hfix : fixD (.tuple [.str (fname i), .list (abcD.take k), .list bl]) = .tuple [.str (fname i), .tuple (abcD.take k), .tuple (bl.map tupOf)] := by
    rw [fixD_tuple]
    have e1 : fixD (.list (abcD.take k)) = .tuple (abcD.take k) := by
      rcases (by omega : k = 0 ∨ k = 1 ∨ k = 2 ∨ k = 3) with rfl | rfl | rfl | rfl <;> rfl
    have e2 : fixD (.list bl) = .tuple (bl.map tupOf) := by
      rw [fixD_list]
      refine congrArg _ (List.map_congr_left fun b hb => ?_)
      obtain ⟨rows, rfl, _, hr⟩ := hblk b hb
      rw [fixD_list]
      refine congrArg _ ((List.map_congr_left (g := id) fun r h => ?_).trans (List.map_id _))
      exact plain_fix (abc_small k) c3 (hr r h)
    rw [List.map_cons, List.map_cons, List.map_cons, List.map_nil, e1, e2]
    rfl
  refine ⟨by rw [hall, List.length_append, g.len]; rfl, fun j d hd => ?_, by rw [hall, List.map_append, g.fix, List.map_cons, List.map_nil, hfix], fun j d hd => ?_, fun c hc => ?_, fun f hf => ?_, fun f hf => ?_⟩
  · rw [hall] at hd
    by_cases hj : j < (fs.map keepF).length
    · rw [List.getElem?_append_left hj] at hd
      exact g.nm j d hd
    · have hjl := (List.getElem?_eq_some_iff.mp hd).1
      rw [List.length_append, List.length_singleton, g.len] at hjl
      rw [g.len] at hj
      obtain rfl : j = i := by omega
      rw [List.getElem?_append_right (by rw [g.len]; exact Nat.le_refl _), g.len, Nat.sub_self] at hd
      cases hd
      exact ⟨_, _, rfl⟩
  · rw [hall] at hd ⊢
    by_cases hj : j < (fs.map keepF).length
    · rw [List.getElem?_append_left hj] at hd
      rw [List.take_append_of_le_length (Nat.le_of_lt hj)]
      exact g.fn j d hd
    · have hjl := (List.getElem?_eq_some_iff.mp hd).1
      rw [List.length_append, List.length_singleton, g.len] at hjl
      rw [g.len] at hj
      obtain rfl : j = i := by omega
      rw [List.getElem?_append_right (by rw [g.len]; exact Nat.le_refl _), g.len, Nat.sub_self] at hd
      cases hd
      have e4 : (fs.map keepF).take j = fs.map keepF := List.take_of_length_le (by rw [g.len]; exact Nat.le_refl _)
      rw [List.take_append_of_le_length (by rw [g.len]; exact Nat.le_refl _), e4]
      exact hfun
  · rw [hall]
    have hfind : (fs.map keepF ++ [PyData.tuple [.str (fname i), .tuple (abcD.take k), .tuple (bl.map tupOf)]]).find? (namedD (fname i)) = some (.tuple [.str (fname i), .tuple (abcD.take k), .tuple (bl.map tupOf)]) := by
      rw [List.find?_append, List.find?_eq_none.mpr fun d hd => by rw [(hno d hd).1]; simp]
      have hp : namedD (fname i) (.tuple [.str (fname i), .tuple (abcD.take k), .tuple (bl.map tupOf)]) = true := by
        show PyData.eqv (.str (fname i)) (.str (fname i)) = true
        rcases fname_or i with e | e <;> rw [e] <;> decide +kernel
      rw [Option.none_or, List.find?_cons_of_pos hp]
    rcases List.mem_append.mp hc with hc | hc
    · rcases List.mem_append.mp hc with hc | hc
      · exact labelOf_app (g.lab c hc)
      · obtain ⟨j, hj, rfl⟩ := labels_mem hc
        exact ⟨"call ", fname i, j, _, _, rfl, .inl rfl, fname_or i, by rw [List.length_map]; exact hj, by rw [List.length_map]; exact b3, fun e => absurd e (by decide), hfind⟩
    · by_cases hkl : bl.length = k
      · rw [if_pos hkl] at hc
        obtain ⟨j, hj, rfl⟩ := labels_mem hc
        exact ⟨"loop ", fname i, j, _, _, rfl, .inr rfl, fname_or i, by rw [List.length_map]; exact hj, by rw [List.length_map]; exact b3, fun _ => by rw [List.length_map, abc_len hk]; exact hkl, hfind⟩
      · rw [if_neg hkl] at hc; cases hc
  · rcases List.mem_append.mp hf with hf | hf
    · exact g.small f hf
    · rw [List.mem_singleton.mp hf]
      have hb : ∀ b ∈ bl, smallD b = true ∧ b.depth ≤ 2 := fun b hb => by
        obtain ⟨rows, rfl, hl, hr⟩ := hblk b hb
        exact ⟨of_small_list (by omega) fun r h => (plain_small (abc_small k) c3 (hr r h)).1, depth_list.mpr fun r h => (plain_small (abc_small k) c3 (hr r h)).2⟩
      have h3 : ∀ x ∈ ([.str (fname i), .list (abcD.take k), .list bl] : List PyData), smallD x = true ∧ x.depth ≤ 3 := fun x hx => by
        rcases List.mem_cons.mp hx with rfl | hx
        · exact ⟨(fname_small i).1, by simp [PyData.depth]⟩
        · rcases List.mem_cons.mp hx with rfl | hx
          · obtain ⟨a, b⟩ := strs_depth (abc_small k) (by rw [abc_len hk]; omega)
            exact ⟨a, depth_list.mpr fun x hx => by obtain ⟨s, rfl, _⟩ := abc_small k x hx; simp [PyData.depth]⟩
          · rw [List.mem_singleton.mp hx]
            exact ⟨of_small_list (by omega) fun b h => (hb b h).1, depth_list.mpr fun b h => (hb b h).2⟩
      exact ⟨of_small_tuple (by simp) fun x hx => (h3 x hx).1, Nat.le_trans (depth_tuple.mpr fun x hx => (h3 x hx).2) (by decide)⟩
  · rw [hall] at hf
    rcases List.mem_append.mp hf with hf | hf
    · exact g.tri f hf
    · rw [List.mem_singleton.mp hf]
      show decide ((PyData.str (fname i)).depth ≤ 60) = true
      exact decide_eq_true (spell_depth (fname_name i))
theorem good_funs {m : Int} : ∀ {i : Nat} {fs cs : List PyData}, i ≤ 2 → FChain m i fs cs → GoodF m i fs cs
  | 0, _, _, _, ⟨h1, h2⟩ => by
    rw [h1, h2]
    exact ⟨rfl, fun j d h => by simp at h, rfl, fun j d h => by simp at h, (fun c h => by cases h), (fun f h => by cases h), fun f h => by simp at h⟩
  | i + 1, _, _, hi, ⟨fs, cs, hch, hst⟩ => good_step (by omega) hch (good_funs (by omega) hch) hst
theorem good_fix {m : Int} {i : Nat} {fs cs : List PyData} (g : GoodF m i fs cs) : fixD (.list fs) = .tuple (fs.map keepF) := by rw [fixD_list, g.fix]
theorem good_funsD {m : Int} {i : Nat} {fs cs : List PyData} (hi : i ≤ 2) (g : GoodF m i fs cs) : funsD (.tuple (fs.map keepF)) m = true := by
  show (decide ((fs.map keepF).length ≤ 8) && (enumD (fs.map keepF)).all (funP m (fs.map keepF))) = true
  rw [g.len, decide_eq_true (by omega : i ≤ 8), Bool.true_and, List.all_eq_true]
  intro p hp
  obtain ⟨j, hj⟩ := List.mem_iff_getElem?.mp hp
  obtain ⟨d, rfl, hd⟩ := enum_mem hj
  show funD d m (cutD (fs.map keepF) none (some (j : Int))) = true
  rw [cut_take]
  exact g.fn j d hd
end K81
namespace K81
open PySem PySem.Spec PyProof.Rows L2

/-! plain facts: what is bad is refused -/
theorem calledD_short {x : Str} {fs : List PyData} (h : (Txt.split x " ").length ≠ 3) : calledD x fs = .none := by
  unfold calledD
  split
  · rename_i a b c e
    rw [e] at h; exact absurd rfl h
  · rfl
theorem calledD_no {x a b c : Str} {fs : List PyData} (h : Txt.split x " " = [a, b, c]) (hf : fs.find? (namedD b) = none) : calledD x fs = .none := by
  unfold calledD
  rw [h]
  show (if callWord a = true then (match fs.find? (namedD b) with | some d => calledIn a c d | none => .none) else .none) = .none
  rw [hf]
  split <;> rfl
theorem rowBad_head {d : PyData} {r fs : List PyData} {m : Int} {deed : Bool} (h : isStrD d = false) : rowD (.tuple (d :: r)) m fs deed = false := head_not h
theorem rowBad_form {x : Str} {r fs : List PyData} {m : Int} {deed : Bool} (q : tab_FORMS.lookup x = none) (h : shapeD (.str x) = .none) (hc : calledD x fs = .none) : rowD (.tuple (.str x :: r)) m fs deed = false := rowD_no (by rw [form_no q h, hc]; rfl)
theorem rowBad_len {x form : Str} {r fs : List PyData} {m : Int} {deed : Bool} (h : formD x fs = .str form) (hl : decide (form.length = r.length) = false) : rowD (.tuple (.str x :: r)) m fs deed = false := by
  rw [rowD_eq h, hl]; rfl
theorem rowBad_item {x form : Str} {r fs : List PyData} {m : Int} {deed : Bool} (h : formD x fs = .str form) (hz : (zipD form r).all (itemP m) = false) : rowD (.tuple (.str x :: r)) m fs deed = false := by
  rw [rowD_eq h, hz, Bool.and_false]
theorem all2f {a b : PyData} {p : PyData → Bool} (h : p a = false ∨ p b = false) : ([a, b] : List PyData).all p = false := by
  rcases h with h | h <;> simp [h]
theorem all3f {a b c : PyData} {p : PyData → Bool} (h : p a = false ∨ p b = false ∨ p c = false) : ([a, b, c] : List PyData).all p = false := by
  rcases h with h | h | h <;> simp [h]
theorem all1f {a : PyData} {p : PyData → Bool} (h : p a = false) : ([a] : List PyData).all p = false := by simp [h]
theorem item_rbig {m : Int} : itemD (.str ⟨#[114]⟩) (.int m) m = false := by
  have e : itemD (.str ⟨#[114]⟩) (.int m) m = (decide (0 ≤ m) && decide (m ≤ m - 1)) := rfl
  rw [e, decide_eq_false (by omega : ¬ m ≤ m - 1), Bool.and_false]
theorem item_rneg {m : Int} : itemD (.str ⟨#[114]⟩) (.int (-1)) m = false := rfl
theorem sh_none {x : Str} (q1 : tab_SHAPES.lookup x = none) (q2 : decide (0 < bitsI x) = false) : shapeD (.str x) = .none := by rw [shape_no q1, q2]; rfl
/-- no function is called h -/
def noH (F : List PyData) : Prop := F.find? (namedD "h") = none
theorem badM_rows {m : Int} {F : List PyData} {x : PyData} (hF : noH F) (h : x ∈ badM0 ++ badM1 m ++ badM2 ++ badM3) : rowD (fixD x) m F true = false ∨ x = .tuple [.str "go", .int 9] := by
  unfold badM0 badM1 badM2 badM3 at h
  simp only [List.mem_append, List.mem_cons, List.not_mem_nil, or_false] at h
  have f2 : ∀ {y : Str}, y ∈ (["neg", "flip", "at", "no", "shl 1", "shl 2", "shl 31"] : List Str) → formD y F = .str "rr" := form2
  have f3 : ∀ {y : Str}, y ∈ (["add", "sub", "mul", "and", "or", "xor", "eq", "lt", "less", "both", "either"] : List Str) → formD y F = .str "rrr" := form3
  rcases h with ((h | h) | h) | h
  · rcases h with rfl | rfl | rfl | rfl | rfl | rfl | rfl
    · exact .inl rfl
    · exact .inl (rowBad_len (form := "") (form_some rfl) rfl)
    · exact .inl (rowBad_len (form := "rn") (form_some rfl) rfl)
    · exact .inl (rowBad_item (form := "rn") (form_some rfl) (all2f (.inr rfl)))
    · exact .inl (rowBad_item (form := "rn") (form_some rfl) (all2f (.inr rfl)))
    · exact .inl (rowBad_item (form := "rn") (form_some rfl) (all2f (.inr rfl)))
    · exact .inl (rowBad_item (form := "rx") (form_some rfl) (all2f (.inr (by decide +kernel : nameD (.str "X") = false))))
  · rcases h with rfl | rfl | rfl | rfl | rfl | rfl | rfl
    · exact .inl (rowBad_form rfl (sh_none rfl (by decide +kernel)) (calledD_short (by decide +kernel)))
    · exact .inl (rowBad_len (f3 (by simp)) rfl)
    · exact .inl (rowBad_item (f3 (by simp)) (all3f (.inr (.inr item_rbig))))
    · exact .inl (rowBad_item (f2 (by simp)) (all2f (.inl (item_rneg (m := m)))))
    · exact .inl (rowBad_form rfl (sh_none rfl (by decide +kernel)) (calledD_short (by decide +kernel)))
    · exact .inl (rowBad_form rfl (sh_none rfl (by decide +kernel)) (calledD_short (by decide +kernel)))
    · exact .inl (rowBad_form rfl (sh_none rfl (by decide +kernel)) (calledD_short (by decide +kernel)))
  · rcases h with rfl | rfl | rfl | rfl | rfl | rfl | rfl | rfl
    · exact .inl (rowBad_item (form := "cr") (form_some rfl) (all2f (.inl rfl)))
    · exact .inl (rowBad_item (form := "cr") (form_some rfl) (all2f (.inl rfl)))
    · exact .inl (rowBad_item (form := "rc") (form_some rfl) (all2f (.inr rfl)))
    · exact .inr rfl
    · exact .inl (rowBad_item (form := "rw") (form_some rfl) (all2f (.inr rfl)))
    · exact .inl (rowBad_form rfl (sh_none rfl (by decide +kernel)) (calledD_no (a := "call") (b := "h") (c := "0") (by decide +kernel) hF))
    · exact .inl (rowBad_len form_if rfl)
    · exact .inl rfl
  · rcases h with rfl | rfl | rfl | rfl | rfl | rfl | rfl | rfl | rfl | rfl
    · exact .inl (rowBad_len (form := "r") (form_some rfl) rfl)
    · exact .inl (rowBad_len (form := "r") (form_some rfl) rfl)
    · exact .inl (rowBad_item (form := "rr") (form_some rfl) (all2f (.inr rfl)))
    · exact .inl (rowBad_item (form := "x") (form_some rfl) (all1f (by decide +kernel : nameD (.str "true") = false)))
    · exact .inl (rowBad_item (form := "xr") (form_some rfl) (all2f (.inl (by decide +kernel : nameD (.int 0) = false))))
    · exact .inl (rowBad_len (form := "") (form_some rfl) rfl)
    · exact .inl rfl
    · exact .inl rfl
    · exact .inl (rowBad_form rfl (sh_none rfl (by decide +kernel)) (calledD_short (by decide +kernel)))
    · exact .inl (rowBad_item (f2 (by simp)) (all2f (.inr rfl)))
theorem rows_badrow {rs F : List PyData} {m : Int} {r : PyData} (hr : r ∈ rs) (h : rowD r m F true = false) : rowsD (.tuple rs) m F true = false := by
  show (rs.all (fun r => rowD r m F true) && _) = false
  have : rs.all (fun r => rowD r m F true) = false := List.all_eq_false.mpr ⟨r, hr, by rw [h]; exact Bool.false_ne_true⟩
  rw [this]; rfl
theorem rows_badlead {rs F : List PyData} {m : Int} {i : Nat} (hi : i < rs.length) (h : leadD rs i = false) : rowsD (.tuple rs) m F true = false := by
  show (_ && (rngD 0 rs.length).all (leadP rs)) = false
  have : (rngD 0 rs.length).all (leadP rs) = false := by
    refine List.all_eq_false.mpr ⟨.int (i : Nat), ?_, ?_⟩
    · unfold rngD
      exact List.mem_map.mpr ⟨i, List.mem_range.mpr hi, by rw [Int.zero_add]⟩
    · show ¬ leadD rs i = true
      rw [h]; exact Bool.false_ne_true
  rw [this, Bool.and_false]
theorem badRows_ref {m : Int} {F : List PyData} {d : PyData} (hF : noH F) (h : badRowsR m d) : rowsD (fixD d) m F true = false ∧ smallD d = true ∧ d.depth ≤ 20 := by
  obtain ⟨r, x, hr, hx, rfl⟩ := h
  have lead : ∀ y : PyData, y = .tuple [.str "go", .int 9] ∨ y ∈ leadM r → rowsD (fixD (.list (aheadD.take r ++ [y]))) m F true = false := fun y hy => by
    rw [fixD_list]
    rcases hy with rfl | hy
    · rcases (by omega : r = 0 ∨ r = 1 ∨ r = 2) with rfl | rfl | rfl
      · exact rows_badlead (i := 0) (by decide) (by decide +kernel)
      · exact rows_badlead (i := 1) (by decide) (by decide +kernel)
      · exact rows_badlead (i := 2) (by decide) (by decide +kernel)
    · unfold leadM at hy
      simp only [List.mem_cons, List.not_mem_nil, or_false] at hy
      have hm : ∀ z : PyData, fixD z ∈ (aheadD.take r ++ [z]).map fixD := fun z => List.mem_map.mpr ⟨z, List.mem_append_right _ (List.mem_singleton_self _), rfl⟩
      rcases hy with rfl | rfl | rfl | rfl | rfl | rfl
      · rcases (by omega : r = 0 ∨ r = 1 ∨ r = 2) with rfl | rfl | rfl
        · exact rows_badlead (i := 0) (by decide) (by decide +kernel)
        · exact rows_badlead (i := 1) (by decide) (by decide +kernel)
        · exact rows_badlead (i := 2) (by decide) (by decide +kernel)
      · rcases (by omega : r = 0 ∨ r = 1 ∨ r = 2) with rfl | rfl | rfl
        · exact rows_badlead (i := 0) (by decide) (by decide +kernel)
        · exact rows_badlead (i := 1) (by decide) (by decide +kernel)
        · exact rows_badlead (i := 2) (by decide) (by decide +kernel)
      · rcases (by omega : r = 0 ∨ r = 1 ∨ r = 2) with rfl | rfl | rfl
        · exact rows_badlead (i := 0) (by decide) (by decide +kernel)
        · exact rows_badlead (i := 1) (by decide) (by decide +kernel)
        · exact rows_badlead (i := 2) (by decide) (by decide +kernel)
      · exact rows_badrow (hm _) (rowBad_item (form := "w") (form_some rfl) (all1f rfl))
      · exact rows_badrow (hm _) (rowBad_item (form := "w") (form_some rfl) (all1f rfl))
      · rcases (by omega : r = 0 ∨ r = 1 ∨ r = 2) with rfl | rfl | rfl
        · exact rows_badlead (i := 0) (by decide) (by decide +kernel)
        · exact rows_badlead (i := 1) (by decide) (by decide +kernel)
        · exact rows_badlead (i := 2) (by decide) (by decide +kernel)
  have sm : ∀ y ∈ badMenu m r, smallD y = true ∧ y.depth ≤ 1 := fun y hy => by
    unfold badMenu badM0 badM1 badM2 badM3 leadM at hy
    simp only [List.mem_append, List.mem_cons, List.not_mem_nil, or_false] at hy
    rcases hy with (((h | h) | h) | h) | h
    · rcases h with rfl | rfl | rfl | rfl | rfl | rfl | rfl <;> exact ⟨by kernel_rfl, Nat.le_of_ble_eq_true rfl⟩
    · rcases h with rfl | rfl | rfl | rfl | rfl | rfl | rfl <;> exact ⟨by kernel_rfl, Nat.le_of_ble_eq_true rfl⟩
    · rcases h with rfl | rfl | rfl | rfl | rfl | rfl | rfl | rfl <;> exact ⟨by kernel_rfl, Nat.le_of_ble_eq_true rfl⟩
    · rcases h with rfl | rfl | rfl | rfl | rfl | rfl | rfl | rfl | rfl | rfl <;> exact ⟨by kernel_rfl, Nat.le_of_ble_eq_true rfl⟩
    · rcases h with rfl | rfl | rfl | rfl | rfl | rfl <;> exact ⟨by kernel_rfl, Nat.le_of_ble_eq_true rfl⟩
  have sah : ∀ y ∈ aheadD, smallD y = true ∧ y.depth ≤ 1 := fun y hy => by
    unfold aheadD at hy
    simp only [List.mem_cons, List.not_mem_nil, or_false] at hy
    rcases hy with rfl | rfl <;> exact ⟨by kernel_rfl, Nat.le_of_ble_eq_true rfl⟩
  have sall : ∀ y ∈ aheadD.take r ++ [x], smallD y = true ∧ y.depth ≤ 1 := fun y hy => by
    rcases List.mem_append.mp hy with hy | hy
    · exact sah y (List.mem_of_mem_take hy)
    · rw [List.mem_singleton.mp hy]; exact sm x hx
  refine ⟨?_, of_small_list (by rw [List.length_append, ahead_len hr]; simp; omega) fun y hy => (sall y hy).1, Nat.le_trans (depth_list.mpr fun y hy => (sall y hy).2) (by decide)⟩
  unfold badMenu at hx
  rcases List.mem_append.mp hx with hx | hx
  · rcases badM_rows hF hx with h | h
    · rw [fixD_list]
      exact rows_badrow (List.mem_map.mpr ⟨x, List.mem_append_right _ (List.mem_singleton_self _), rfl⟩) h
    · exact lead x (.inl h)
  · exact lead x (.inr hx)
/-! bad functions -/
theorem badF_ref {d : PyData} (h : d ∈ badF4) : (∀ m : Int, 3 ≤ m → m ≤ 16 → funsD (fixD d) m = false) ∧ smallD d = true ∧ d.depth ≤ 20 ∧ triHead (fixD d) := by
  have key : (badF4.all fun d => ((List.range 14).all fun k => !funsD (fixD d) (3 + (k : Int))) && smallD d && decide (d.depth ≤ 20) && (match fixD d with | .tuple fs => decide (¬ fs.length ≤ 8) || fs.dropLast.all isTri | _ => true)) = true := by decide +kernel
  have := List.all_eq_true.mp key d h
  rw [Bool.and_eq_true, Bool.and_eq_true, Bool.and_eq_true] at this
  obtain ⟨⟨⟨h1, h2⟩, h3⟩, h4⟩ := this
  refine ⟨fun m m0 m1 => ?_, h2, of_decide_eq_true h3, ?_⟩
  · obtain ⟨k, hk, rfl⟩ : ∃ k : Nat, k < 14 ∧ m = 3 + k := ⟨(m - 3).toNat, by omega, by omega⟩
    have := List.all_eq_true.mp h1 k (List.mem_range.mpr hk)
    simpa using this
  · unfold triHead
    cases e : fixD d with
    | tuple fs =>
      rw [e] at h4
      intro hl f hf
      have h4 : (decide (¬ fs.length ≤ 8) || fs.dropLast.all isTri) = true := h4
      rw [Bool.or_eq_true] at h4
      rcases h4 with h4 | h4
      · exact absurd hl (of_decide_eq_true h4)
      · exact List.all_eq_true.mp h4 f hf
    | _ => trivial
def bad0 : List PyData := [.int 0, .int 9, .bool true, .none, .str "1", .list [.int 1]]
def bad1 : List PyData := [.int (-1), .int 1001, .bool true, .none, .str "1"]
def bad2 : List PyData := [.int 2, .int 17, .bool true, .none, .str "3"]
def bad3 : List PyData := [.none, .str "x", .list [.str "x", .str "x"], .list [.str "X"], .list [.str "true"], .list [.str "abcdefghi"], .list [.int 1], .list [.str "a", .str "b", .str "c", .str "d", .str "e", .str "f", .str "g"], .list [.str "1a"], .list [.str ""], .dict []]
theorem bad0_ref {d : PyData} (h : d ∈ bad0) : withinD d (.int 1) (.int 8) = false := by
  unfold bad0 at h
  simp only [List.mem_cons, List.not_mem_nil, or_false] at h
  rcases h with rfl | rfl | rfl | rfl | rfl | rfl <;> rfl
theorem bad1_ref {d : PyData} (h : d ∈ bad1) : withinD d (.int 0) (.int 1000) = false := by
  unfold bad1 at h
  simp only [List.mem_cons, List.not_mem_nil, or_false] at h
  rcases h with rfl | rfl | rfl | rfl | rfl <;> rfl
theorem bad2_ref {d : PyData} (h : d ∈ bad2) : withinD d (.int 3) (.int 16) = false := by
  unfold bad2 at h
  simp only [List.mem_cons, List.not_mem_nil, or_false] at h
  rcases h with rfl | rfl | rfl | rfl | rfl <;> rfl
theorem bad3_ref {d : PyData} (h : d ∈ bad3) : namesD d = false ∧ smallQ d := by
  unfold bad3 at h
  simp only [List.mem_cons, List.not_mem_nil, or_false] at h
  rcases h with rfl | rfl | rfl | rfl | rfl | rfl | rfl | rfl | rfl | rfl | rfl
  · exact ⟨rfl, .inl rfl⟩
  · exact ⟨rfl, .inl (by decide +kernel)⟩
  · exact ⟨by decide +kernel, .inl (by decide +kernel)⟩
  · exact ⟨by decide +kernel, .inl (by decide +kernel)⟩
  · exact ⟨by decide +kernel, .inl (by decide +kernel)⟩
  · exact ⟨by decide +kernel, .inl (by decide +kernel)⟩
  · exact ⟨by decide +kernel, .inl (by decide +kernel)⟩
  · exact ⟨by decide +kernel, .inl (by decide +kernel)⟩
  · exact ⟨by decide +kernel, .inl (by decide +kernel)⟩
  · exact ⟨by decide +kernel, .inl (by decide +kernel)⟩
  · exact ⟨rfl, .inr rfl⟩
end K81
namespace K81
open PySem PySem.Spec PyProof.Rows L2

/-! plain facts: the good code -/
mutual
theorem fix_idem : ∀ d : PyData, fixD (fixD d) = fixD d
  | .none => rfl
  | .bool _ => rfl
  | .int _ => rfl
  | .str _ => rfl
  | .list xs => by rw [fixD, fixD, fixAll_idem xs]
  | .tuple xs => by rw [fixD, fixD, fixAll_idem xs]
  | .dict _ => rfl
theorem fixAll_idem : ∀ ds : List PyData, fixAll (fixAll ds) = fixAll ds
  | [] => rfl
  | x :: xs => by rw [fixAll, fixAll, fix_idem x, fixAll_idem xs]
end
def leafOk (x : PyData) : Prop := (∃ i : Int, x = .int i ∧ i.natAbs < 10 ^ 10) ∨ ∃ s, x = .str s ∧ smallD x = true
theorem leaf_s {s : Str} (h : smallD (.str s) = true) : leafOk (.str s) := .inr ⟨s, rfl, h⟩
theorem leaf_i {i : Int} (h : i.natAbs < 10 ^ 10) : leafOk (.int i) := .inl ⟨i, rfl, h⟩
theorem leaf_r {i m : Int} (h : 0 ≤ i ∧ i < m) (hm : m < 1000) : leafOk (.int i) := leaf_i (by omega)
theorem plain_leaf {m : Int} {names calls : List PyData} {d : PyData} (hm : m < 1000) (hn : strsOk names) (hc : strsOk calls) (h : plainOk m names calls d) : ∃ l, d = .tuple l ∧ l.length ≤ 5 ∧ ∀ x ∈ l, leafOk x := by
  have hs : ∀ x ∈ names ++ [.str "w9"], leafOk x := fun x hx => by
    rcases List.mem_append.mp hx with hx | hx
    · obtain ⟨s, rfl, h2⟩ := hn x hx; exact leaf_s h2
    · rw [List.mem_singleton.mp hx]; exact leaf_s (by decide +kernel)
  have hcc : ∀ x ∈ calls, leafOk x := fun x hx => by
    obtain ⟨s, rfl, h2⟩ := hc x hx; exact leaf_s h2
  obtain ⟨r0, r1, r2, r3, h0, h1, h2, h3, h⟩ := h
  have i0 := leaf_r h0 hm
  have i1 := leaf_r h1 hm
  have i2 := leaf_r h2 hm
  have i3 := leaf_r h3 hm
  rcases h with ⟨k, hk, rfl⟩ | ⟨x, hx, rfl⟩ | rfl | rfl | rfl | ⟨k, hk, rfl⟩ | rfl | ⟨k, hk, rfl⟩ | ⟨x, hx, rfl⟩ | ⟨x, hx, rfl⟩ | rfl | ⟨x, hx, rfl⟩
  · exact ⟨_, rfl, by simp, by simp only [List.mem_cons, List.not_mem_nil, or_false, forall_eq_or_imp, forall_eq]; exact ⟨leaf_s (by decide +kernel), i0, leaf_i (by simp only [List.mem_cons, List.not_mem_nil, or_false] at hk; omega)⟩⟩
  · exact ⟨_, rfl, by simp, by simp only [List.mem_cons, List.not_mem_nil, or_false, forall_eq_or_imp, forall_eq]; exact ⟨leaf_s (by decide +kernel), i0, hs _ hx⟩⟩
  · exact ⟨_, rfl, by simp, by simp only [List.mem_cons, List.not_mem_nil, or_false, forall_eq_or_imp, forall_eq]; exact ⟨leaf_s (by decide +kernel), i0⟩⟩
  · exact ⟨_, rfl, by simp, by simp only [List.mem_cons, List.not_mem_nil, or_false, forall_eq_or_imp, forall_eq]; exact ⟨leaf_s (by decide +kernel), i0⟩⟩
  · exact ⟨_, rfl, by simp, by simp only [List.mem_cons, List.not_mem_nil, or_false, forall_eq_or_imp, forall_eq]; exact leaf_s (by decide +kernel)⟩
  · exact ⟨_, rfl, by simp, by simp only [List.mem_cons, List.not_mem_nil, or_false, forall_eq_or_imp, forall_eq]; exact ⟨leaf_s (by decide +kernel), leaf_i (by simp only [List.mem_cons, List.not_mem_nil, or_false] at hk; omega), i0⟩⟩
  · exact ⟨_, rfl, by simp, by simp only [List.mem_cons, List.not_mem_nil, or_false, forall_eq_or_imp, forall_eq]; exact ⟨leaf_s (by decide +kernel), i0⟩⟩
  · exact ⟨_, rfl, by simp, by simp only [List.mem_cons, List.not_mem_nil, or_false, forall_eq_or_imp, forall_eq]; exact ⟨leaf_s (by decide +kernel), i0, leaf_i (by simp only [List.mem_cons, List.not_mem_nil, or_false] at hk; omega)⟩⟩
  · exact ⟨_, rfl, by simp, by simp only [List.mem_cons, List.not_mem_nil, or_false, forall_eq_or_imp, forall_eq]; exact ⟨hcc _ hx, i0⟩⟩
  · have hz : smallD (.str x) = true := by
      simp only [List.mem_cons, List.not_mem_nil, or_false] at hx
      rcases hx with rfl | rfl | rfl | rfl | rfl | rfl | rfl <;> decide +kernel
    exact ⟨_, rfl, by simp, by simp only [List.mem_cons, List.not_mem_nil, or_false, forall_eq_or_imp, forall_eq]; exact ⟨leaf_s hz, i0, i1⟩⟩
  · exact ⟨_, rfl, by simp, by simp only [List.mem_cons, List.not_mem_nil, or_false, forall_eq_or_imp, forall_eq]; exact ⟨leaf_s (by decide +kernel), i0, i1, i2, i3⟩⟩
  · have hz : smallD (.str x) = true := by
      simp only [List.mem_cons, List.not_mem_nil, or_false] at hx
      rcases hx with rfl | rfl | rfl | rfl | rfl | rfl | rfl | rfl | rfl | rfl | rfl <;> decide +kernel
    exact ⟨_, rfl, by simp, by simp only [List.mem_cons, List.not_mem_nil, or_false, forall_eq_or_imp, forall_eq]; exact ⟨leaf_s hz, i0, i1, i2⟩⟩
theorem deed_leaf {m : Int} {names calls fs : List PyData} {i size : Nat} {d : PyData} (hm : m < 1000) (hi : i ≤ 100) (hsz : size ≤ 100) (hn : strsOk names) (hc : strsOk calls) (h : deedOk m names calls fs i size d) : ∃ l, d = .tuple l ∧ l.length ≤ 5 ∧ ∀ x ∈ l, leafOk x := by
  obtain ⟨x, one, two, t, hx, h1, h2, ht, h⟩ := h
  have hx' : leafOk x := by
    obtain ⟨s, rfl, h2⟩ := z_ok hn (s := "z") (by decide +kernel) x hx; exact leaf_s h2
  have i1 := leaf_r h1 hm
  have i2 := leaf_r h2 hm
  have it : leafOk (.int t) := leaf_i (by rcases ht with ⟨j, rfl, hj, _⟩ | ⟨a, b⟩ <;> omega)
  rcases h with rfl | rfl | rfl | rfl | rfl | rfl | rfl | h
  · exact ⟨_, rfl, by simp, by simp only [List.mem_cons, List.not_mem_nil, or_false, forall_eq_or_imp, forall_eq]; exact leaf_s (by decide +kernel)⟩
  · exact ⟨_, rfl, by simp, by simp only [List.mem_cons, List.not_mem_nil, or_false, forall_eq_or_imp, forall_eq]; exact ⟨leaf_s (by decide +kernel), hx', i1⟩⟩
  · exact ⟨_, rfl, by simp, by simp only [List.mem_cons, List.not_mem_nil, or_false, forall_eq_or_imp, forall_eq]; exact ⟨leaf_s (by decide +kernel), hx'⟩⟩
  · exact ⟨_, rfl, by simp, by simp only [List.mem_cons, List.not_mem_nil, or_false, forall_eq_or_imp, forall_eq]; exact ⟨leaf_s (by decide +kernel), i1⟩⟩
  · exact ⟨_, rfl, by simp, by simp only [List.mem_cons, List.not_mem_nil, or_false, forall_eq_or_imp, forall_eq]; exact ⟨leaf_s (by decide +kernel), i1, i2⟩⟩
  · exact ⟨_, rfl, by simp, by simp only [List.mem_cons, List.not_mem_nil, or_false, forall_eq_or_imp, forall_eq]; exact ⟨leaf_s (by decide +kernel), i1, it⟩⟩
  · exact ⟨_, rfl, by simp, by simp only [List.mem_cons, List.not_mem_nil, or_false, forall_eq_or_imp, forall_eq]; exact ⟨leaf_s (by decide +kernel), it⟩⟩
  · exact plain_leaf hm (z_ok hn (by decide +kernel)) hc h
/-- can be shown: depth k, weight B -/
structure Rp (B k : Nat) (d : PyData) : Prop where
  cl : d.canLay0 = true
  dp : d.depth ≤ k
  wt : d.weight ≤ B
  sh : d.showable = true
  is : d.intsShort 13 = true
theorem rp_leaf {x : PyData} (h : leafOk x) : Rp 1100 0 x := by
  rcases h with ⟨i, rfl, h⟩ | ⟨s, rfl, h⟩
  · have hl : i.natAbs.log2 < 34 := by
      by_cases h0 : i.natAbs = 0
      · rw [h0]; decide
      · exact (Nat.log2_lt h0).mpr (Nat.lt_trans h (by decide))
    refine ⟨by simp only [PyData.canLay0], Nat.le_refl _, ?_, ?_, ?_⟩
    · simp only [PyData.weight]
      split <;> omega
    · simp only [PyData.showable]
      exact decide_eq_true (by omega)
    · simp only [PyData.intsShort]
      refine decide_eq_true ?_
      have := int_text_length_le10 (a := i) (k := 10) (by decide) h
      show (Str.ofString (toString i)).length ≤ 13
      rw [PySem.ofString_length]; omega
  · exact ⟨canLay_small _ h, Nat.le_refl _, Nat.le_trans (small_str h) (by decide), rfl, rfl⟩
theorem wall_le {B : Nat} : ∀ {xs : List PyData}, (∀ x ∈ xs, x.weight ≤ B) → PyData.weightAll xs ≤ xs.length * (B + 1)
  | [], _ => by simp [PyData.weightAll]
  | x :: xs, h => by
    have h1 := h x List.mem_cons_self
    have h2 := wall_le fun y hy => h y (List.mem_cons_of_mem _ hy)
    rw [PyData.weightAll, List.length_cons, Nat.succ_mul]; omega
theorem clall {xs : List PyData} (h : ∀ x ∈ xs, x.canLay0 = true) : PyData.canLayAll0 xs = true := by
  induction xs with
  | nil => simp only [PyData.canLayAll0]
  | cons x xs ih => simp only [PyData.canLayAll0, h x List.mem_cons_self, ih fun y hy => h y (List.mem_cons_of_mem _ hy), Bool.and_self]
theorem shall {xs : List PyData} (h : ∀ x ∈ xs, x.showable = true) : PyData.showableAll xs = true := by
  induction xs with
  | nil => simp only [PyData.showableAll]
  | cons x xs ih => simp only [PyData.showableAll, h x List.mem_cons_self, ih fun y hy => h y (List.mem_cons_of_mem _ hy), Bool.and_self]
theorem isall {xs : List PyData} (h : ∀ x ∈ xs, x.intsShort 13 = true) : PyData.intsShortAll 13 xs = true := by
  induction xs with
  | nil => simp only [PyData.intsShortAll]
  | cons x xs ih => simp only [PyData.intsShortAll, h x List.mem_cons_self, ih fun y hy => h y (List.mem_cons_of_mem _ hy), Bool.and_self]
theorem rp_tuple {B k n : Nat} {xs : List PyData} (h : ∀ x ∈ xs, Rp B k x) (hn : xs.length ≤ n) : Rp (n * (B + 1)) (k + 1) (.tuple xs) :=
  ⟨by simp only [PyData.canLay0]; exact clall fun x hx => (h x hx).cl, depth_tuple.mpr fun x hx => (h x hx).dp, by simp only [PyData.weight]; exact Nat.le_trans (wall_le fun x hx => (h x hx).wt) (Nat.mul_le_mul_right _ hn),
    by simp only [PyData.showable]; exact shall fun x hx => (h x hx).sh, by simp only [PyData.intsShort]; exact isall fun x hx => (h x hx).is⟩
theorem Rp.le {B B' k k' : Nat} {d : PyData} (h : Rp B k d) (hb : B ≤ B') (hk : k ≤ k') : Rp B' k' d := ⟨h.cl, Nat.le_trans h.dp hk, Nat.le_trans h.wt hb, h.sh, h.is⟩
theorem Rp.lay {B k : Nat} {d : PyData} (h : Rp B k d) (hb : B ≤ 1048576) (hk : k ≤ 64) : d.layable0 = true := by
  unfold PyData.layable0
  rw [h.cl, decide_eq_true (Nat.le_trans h.dp hk), decide_eq_true (Nat.le_trans h.wt (Nat.le_trans hb (by decide)))]; rfl
def inpD : List PyData := [.str "x", .str "y1"]
/-- what the law has drawn -/
structure GoodX (m l r : Int) (inp fs cs rs : List PyData) : Prop where
  hm : 3 ≤ m ∧ m ≤ 16
  hl : 1 ≤ l ∧ l ≤ 8
  hr : 0 ≤ r ∧ r ≤ 1000
  pinp : ∃ k, k ≤ 2 ∧ inp = inpD.take k
  pfs : ∃ i, i ≤ 2 ∧ FChain m i fs cs
  prl : rs.length ≤ 23
  prs : ∀ i e, rs[i]? = some e → deedOk m inp cs rs i rs.length e
theorem GoodX.strs {m l r : Int} {inp fs cs rs : List PyData} (g : GoodX m l r inp fs cs rs) : strsOk inp ∧ strsOk cs ∧ inp.length ≤ 2 ∧ cs.length ≤ 12 ∧ (∀ x ∈ inp ++ [.str "z"], nameD x = true) ∧ namesD (.list inp) = true ∧ namesD (.tuple inp) = true := by
  obtain ⟨k, hk, rfl⟩ := g.pinp
  obtain ⟨i, hi, hch⟩ := g.pfs
  obtain ⟨c1, c2, c3⟩ := chain_small hch
  refine ⟨fun x hx => ?_, c3, ?_, by omega, fun x hx => ?_, ?_, ?_⟩
  · have h : x ∈ inpD := List.mem_of_mem_take hx
    unfold inpD at h
    simp only [List.mem_cons, List.not_mem_nil, or_false] at h
    rcases h with rfl | rfl <;> exact ⟨_, rfl, by decide +kernel⟩
  · exact Nat.le_trans (List.length_take_le _ _) hk
  · rcases List.mem_append.mp hx with hx | hx
    · have h : x ∈ inpD := List.mem_of_mem_take hx
      unfold inpD at h
      simp only [List.mem_cons, List.not_mem_nil, or_false] at h
      rcases h with rfl | rfl <;> decide +kernel
    · rw [List.mem_singleton.mp hx]; decide +kernel
  · rcases (by omega : k = 0 ∨ k = 1 ∨ k = 2) with rfl | rfl | rfl <;> decide +kernel
  · rcases (by omega : k = 0 ∨ k = 1 ∨ k = 2) with rfl | rfl | rfl <;> decide +kernel
theorem GoodX.noh {m l r : Int} {inp fs cs rs : List PyData} (g : GoodX m l r inp fs cs rs) : noH (fs.map keepF) := by
  obtain ⟨i, hi, hch⟩ := g.pfs
  have gf := good_funs hi hch
  refine List.find?_eq_none.mpr fun d hd => ?_
  obtain ⟨j, hj, rfl⟩ := List.mem_iff_getElem.mp hd
  obtain ⟨ps, bs, e⟩ := gf.nm j _ (List.getElem?_eq_getElem hj)
  rw [e]
  show ¬ PyData.eqv (.str (fname j)) (.str "h") = true
  rcases fname_or j with q | q <;> rw [q] <;> decide +kernel
theorem GoodX.row {m l r : Int} {inp fs cs rs : List PyData} (g : GoodX m l r inp fs cs rs) : ∀ d ∈ rs, ∃ xs, d = .tuple xs ∧ xs.length ≤ 5 ∧ (∀ x ∈ xs, leafOk x) ∧ fixD d = d ∧ smallD d = true ∧ d.depth ≤ 1 := fun d hd => by
  obtain ⟨j, hj, rfl⟩ := List.mem_iff_getElem.mp hd
  obtain ⟨s1, s2, _⟩ := g.strs
  have hm := g.hm
  have rl := g.prl
  have h := g.prs j _ (List.getElem?_eq_getElem hj)
  obtain ⟨xs, e, h1, h2⟩ := deed_leaf (m := m) (i := j) (size := rs.length) (by omega) (by omega) (by omega) s1 s2 h
  obtain ⟨h3, h4⟩ := deed_small s1 s2 h
  refine ⟨xs, e, h1, h2, ?_, h3, h4⟩
  rw [e] at h4 ⊢
  exact fix_flat h4
def listOf (d : PyData) : PyData := .list (itemsOf d)
theorem GoodX.fixRows {m l r : Int} {inp fs cs rs : List PyData} (g : GoodX m l r inp fs cs rs) : fixD (.list (rs.map listOf)) = .tuple rs ∧ fixD (.tuple rs) = .tuple rs ∧ fixD (.list rs) = .tuple rs ∧ fixD (.list (rs ++ [spendD])) = .tuple (rs ++ [spendD]) := by
  have h1 : rs.map fixD = rs := (List.map_congr_left (g := id) fun d hd => (g.row d hd).elim fun xs h => h.2.2.2.1).trans (List.map_id _)
  have h2 : (rs.map listOf).map fixD = rs := by
    rw [List.map_map]
    refine (List.map_congr_left (g := id) fun d hd => ?_).trans (List.map_id _)
    obtain ⟨xs, rfl, _, _, h, _⟩ := g.row d hd
    rw [fixD_tuple] at h
    show fixD (.list xs) = .tuple xs
    rw [fixD_list]; exact h
  refine ⟨by rw [fixD_list, h2], by rw [fixD_tuple, h1], by rw [fixD_list, h1], ?_⟩
  rw [fixD_list, List.map_append, h1]; rfl
theorem GoodX.fixFuns {m l r : Int} {inp fs cs rs : List PyData} (g : GoodX m l r inp fs cs rs) : fixD (.list fs) = .tuple (fs.map keepF) ∧ fixD (.tuple (fs.map keepF)) = .tuple (fs.map keepF) := by
  obtain ⟨i, hi, hch⟩ := g.pfs
  have gf := good_funs hi hch
  refine ⟨good_fix gf, ?_⟩
  have h := good_fix gf
  have hid : ∀ d : PyData, fixD (fixD d) = fixD d := fix_idem
  rw [← h, hid]
theorem GoodX.rows1 {m l r : Int} {inp fs cs rs : List PyData} (g : GoodX m l r inp fs cs rs) : rowsD (.tuple rs) m (fs.map keepF) true = true ∧ rowsD (.tuple (rs ++ [spendD])) m (fs.map keepF) true = true := by
  obtain ⟨i, hi, hch⟩ := g.pfs
  have gf := good_funs hi hch
  obtain ⟨_, _, _, _, hn, _⟩ := g.strs
  have hc : ∀ c ∈ cs, callable (fs.map keepF) c := fun c hc => labelOf_call (gf.lab c hc)
  refine ⟨deed_rows rfl hn hc g.prs, deed_rows (size := rs.length + 1) (by rw [List.length_append]; rfl) hn hc fun j e he => ?_⟩
  by_cases hj : j < rs.length
  · rw [List.getElem?_append_left hj] at he
    obtain ⟨x, one, two, t, h1, h2, h3, h4, h5⟩ := deedOk_app (gs := [spendD]) (by omega) (g.prs j e he)
    refine ⟨x, one, two, t, h1, h2, h3, ?_, h5⟩
    rcases h4 with h4 | ⟨a, b⟩
    · exact .inl h4
    · exact .inr ⟨a, by omega⟩
  · have hjl := (List.getElem?_eq_some_iff.mp he).1
    rw [List.length_append, List.length_singleton] at hjl
    obtain rfl : j = rs.length := by omega
    rw [List.getElem?_append_right (Nat.le_refl _), Nat.sub_self] at he
    cases he
    have hm := g.hm
    exact ⟨.str "z", 0, 0, rs.length + 1, List.mem_append_right _ (List.mem_singleton_self _), by omega, by omega, .inr ⟨by omega, by omega⟩, .inl rfl⟩
theorem GoodX.ok {m l r : Int} {inp fs cs rs : List PyData} (g : GoodX m l r inp fs cs rs) {i f w : PyData} (hi : i = .list inp ∨ i = .tuple inp) (hf : fixD f = .tuple (fs.map keepF)) (hw : fixD w = .tuple rs ∨ fixD w = .tuple (rs ++ [spendD])) : codeOk (.int l) (.int r) (.int m) i f w = true := by
  obtain ⟨k, hk, hch⟩ := g.pfs
  have gf := good_funs hk hch
  obtain ⟨_, _, _, _, _, n1, n2⟩ := g.strs
  obtain ⟨r1, r2⟩ := g.rows1
  have w1 : withinD (.int l) (.int 1) (.int 8) = true := by
    show (decide (1 ≤ l) && decide (l ≤ 8)) = true
    rw [decide_eq_true g.hl.1, decide_eq_true g.hl.2]; rfl
  have w2 : withinD (.int r) (.int 0) (.int 1000) = true := by
    show (decide (0 ≤ r) && decide (r ≤ 1000)) = true
    rw [decide_eq_true g.hr.1, decide_eq_true g.hr.2]; rfl
  have w3 : withinD (.int m) (.int 3) (.int 16) = true := by
    show (decide (3 ≤ m) && decide (m ≤ 16)) = true
    rw [decide_eq_true g.hm.1, decide_eq_true g.hm.2]; rfl
  have w4 : namesD i = true := by rcases hi with rfl | rfl <;> assumption
  have w5 : funsD (fixD f) (intOf (.int m)) = true := by rw [hf]; exact good_funsD hk gf
  have w6 : rowsD (fixD w) (intOf (.int m)) (itemsOf (fixD f)) true = true := by
    rw [hf]
    rcases hw with h | h <;> rw [h]
    · exact r1
    · exact r2
  unfold codeOk
  rw [w1, w2, w3, w4, w5, w6]; rfl
end K81
namespace K81
open PySem PySem.Spec PyProof.Rows L2

def N_law : List Str := ["_law_script", "_law_pen_here", "_law_many", "_law_least", "_law_rounds", "_law_functions", "_law_calls", "_law_inputs", "_law_rows", "_law_handed", "_law_code", "_law_kept", "_law_due", "_law_row", "_law_twin", "_law_bad", "_law_first", "_law_told", "_law_part", "_law_name", "_law_parameters", "_law_blocks_here", "_law_block", "_law_at"]
theorem sc_law : FnScope N_law ["_law_script"] (defScope s_law) := ⟨rfl, rfl, rfl, by decide +kernel, rfl, by decide +kernel, by decide +kernel⟩
def qLam : Str := (envOfC "law" (defScope s_law) 0 0 .none).qual ++ "<lambda>"
abbrev ksCode : List Str := ["rows", "functions", "inputs", "registers", "rounds", "least"]
abbrev psCode : List Str := ["self", "least", "rounds", "registers", "inputs", "functions", "rows"]
def kwOrd {α : Type} (us ws : List α) : List α := us ++ ws.reverse
/-- what the law's walk needs of the top -/
structure LawC (P : Program) (w : World) (K : PySem.W.Frag) (mg : Str → Option Value) (base : Heap) (C CEr fc fe : Addr) (fdc fde : FuncData) (CX : Nat → Addr) : Prop where
  T : Tx w K mg
  ck : CodeK K mg C
  ce : CodeE K C
  mkC : Mk K C fc
  bC : Binds K fdc psCode []
  fC : FnOk P w K mg base (L2.CX P w) 23 fc fdc psCode (spCode K C (CX 0) (CX 3))
  bk : KBn K fdc psCode 1 ksCode kwOrd kwOrd
  fq : FnOk P w K mg base CX0 1 fe fde ["self", "other"] (spEqC K C)
  bq : Binds K fde ["self", "other"] []
  hq : PySem.W.findIn K (.ref C) "__eq__" = some (some (.ref fe))
  iq : PySem.W.isFn K (.ref fe) = true
  hne : PySem.W.findIn K (.ref C) "__ne__" = some (some (.builtin "object.__ne__"))
  nfC : PySem.W.notFirst K C (.ref C) = true
  nfT : PySem.W.notFirst K C (.type "tuple") = true
  er : ErrK K mg CEr CX
  hd : At K mg "_law_heard" s__law_heard ["_law_ask"]
  dpen : Df P w K mg base "_law_pen" 1 ["_law_script"] (spPen K)
  ddraw : Df P w K mg base "_law_draw" 1 ["_law_pen_here", "_law_many"] (spDraw K)
  dpick : Df P w K mg base "_law_pick" 2 ["_law_pen_here", "_law_some"] (spPick K)
  dblocks : Df P w K mg base "_law_blocks" 4 ["_law_pen_here", "_law_many"] (spI K 301 (fun ds => ∃ m : Int, ds = [.int m] ∧ 0 < m ∧ m < 1000) (fun ds d => match ds with | [.int m] => blocksR m d | _ => False))
  ddeeds : Df P w K mg base "_law_deed_rows" 4 ["_law_pen_here", "_law_many", "_law_names", "_law_calls"] (spI K 361 (fun ds => ∃ (m : Int) (names calls : List PyData), ds = [.int m, .list names, .list calls] ∧ 0 < m ∧ m < 1000 ∧ names.length ≤ 50 ∧ strsOk names ∧ calls.length ≤ 100 ∧ strsOk calls) (fun ds d => match ds with | [.int m, .list names, .list calls] => deedsR m names calls d | _ => False))
  dbadF : Df P w K mg base "_law_bad_functions" 3 ["_law_pen_here"] (spI K 1 (fun ds => ds = []) (fun _ d => d ∈ badF4))
  dbadR : Df P w K mg base "_law_bad_rows" 3 ["_law_pen_here", "_law_many"] (spI K 7 (fun ds => ∃ m : Int, ds = [.int m]) (fun ds d => match ds with | [.int m] => badRowsR m d | _ => False))
  dlet : DfX P w K mg base "_law_let" 25 ["_law_pen_here", "_law_many"] (spLet K)
abbrev LX (P : Program) (w : World) (K : PySem.W.Frag) (mg : Str → Option Value) (base : Heap) (f : Addr) (cdv : Value) (A : Around) (outer : List Env) (s : Shared) (H0 : Hp) (E : XK) : Cx := (cxOf C8.CX0 P w K mg base N_law "law" (defScope s_law) f cdv A outer s H0 E).nox
abbrev lawB (i : Nat) : List Stmt := (defBody s_law).drop i
section
variable {P : Program} {w : World} {K : PySem.W.Frag} {mg : Str → Option Value} {base : Heap} {C CEr fc fe f : Addr} {fdc fde : FuncData} {CX : Nat → Addr} {cdv : Value} {A : Around} {outer : List Env} {s : Shared} {H0 : Hp} {E : XK} {u : TS}
theorem ie_set2C {Z : List Addr} {p : Addr} {n n1 : Nat} {σ : L2.St} {H : Hp} {te : TE} {i j : Nat} {R2 : PyData → PyData → Prop} {rest : TS} {D : Ends} (o : Occ Z H) (Pp : Pen K p n H) (h : IE K Z p n n1 te σ (hid Z H) (fun d => ∃ x y, d = .tuple [x, y] ∧ R2 x y)) (q : ∀ x y v1 v2 H2, R2 x y → SB p H H2 → Pen K p n1 H2 → Dx K (hid Z H2) v1 x → Dx K (hid Z H2) v2 y → rest D ((σ.set i (some v1)).set j (some v2)) H2) :
    tSeq (tAsg te (gTup K 2 (gCons (gName i) (gCons (gName j) gNil)))) rest D σ H := h H (Same.refl _) o Pp _ fun d v H2 r s2 P2 dv => by
  obtain ⟨x, y, rfl, r3⟩ := r
  obtain ⟨a, xs, rfl, hs, ha⟩ := dv.tup_inv
  obtain ⟨v1, v2, rfl, d1, d2⟩ := all2 ha
  exact ⟨a, _, rfl, same_t hid_sub hs, rfl, _, _, rfl, _, _, rfl, rfl, q x y v1 v2 H2 r3 s2 P2 d1 d2⟩
/-- the law's names after the drawing -/
def st1 (a p : Addr) (m l r : Int) (vf vc vi vr : V) (more : List (Option V)) : L2.St := some (.ref a) :: some (.ref p) :: some (.int m) :: some (.int l) :: some (.int r) :: some vf :: some vc :: some vi :: some vr :: more
theorem seg1 (L : LawC P w K mg base C CEr fc fe fdc fde CX) (hr : Room 26 (A.deeper (envOfC "law" (defScope s_law) s.heap.objs.size f cdv))) (hrest : PSs (LX P w K mg base f cdv A outer s H0 E) (lawB 5) u) :
    ∃ t, PSs (LX P w K mg base f cdv A outer s H0 E) (lawB 0) t ∧ ∀ (D : Ends) (H : Hp) (a : Addr) (ns : List Int), SqL K H a (ns.map V.int) →
      (∀ (p : Addr) (m l r : Int) (inp fs cs rs : List PyData) (vf vc vi vr : V) (H1 : Hp), GoodX m l r inp fs cs rs → Same H H1 → Pen K p 1000 H1 → H p = none → Dx K (hid [p] H1) vf (.list fs) → Dx K (hid [p] H1) vc (.list cs) → Dx K (hid [p] H1) vi (.list inp) → Dx K (hid [p] H1) vr (.list rs) → u D (st1 a p m l r vf vc vi vr (List.replicate 15 none)) H1) → t D (start N_law [.ref a]) H := by
  have T := L.T
  have nd := sc_law.nd
  have D__law_pen := L.dpen
  have D__law_draw := L.ddraw
  have D__law_pick := L.dpick
  have D__law_blocks := L.dblocks
  have D__law_deed_rows := L.ddeeds
  obtain ⟨f__law_pen, fd__law_pen, g__law_pen, kp__law_pen, b__law_pen, G__law_pen⟩ := D__law_pen
  obtain ⟨f__law_draw, fd__law_draw, g__law_draw, kp__law_draw, b__law_draw, G__law_draw⟩ := D__law_draw
  obtain ⟨f__law_pick, fd__law_pick, g__law_pick, kp__law_pick, b__law_pick, G__law_pick⟩ := D__law_pick
  obtain ⟨f__law_blocks, fd__law_blocks, g__law_blocks, kp__law_blocks, b__law_blocks, G__law_blocks⟩ := D__law_blocks
  obtain ⟨f__law_deed_rows, fd__law_deed_rows, g__law_deed_rows, kp__law_deed_rows, b__law_deed_rows, G__law_deed_rows⟩ := D__law_deed_rows

  refine ⟨_, (pss_cons (ps_set (i := 1) nd rfl (Or.inr rfl) (pe_call G__law_pen (hr.mono (by decide)) (by rfl) g__law_pen kp__law_pen b__law_pen .nil pass0 (pa_cons (pv 0) pa_nil)))
    (pss_cons (ps_asg (pe_tup (pa_cons (pe_op op_add pe_int (pe_call G__law_draw (hr.mono (by decide)) (by rfl) g__law_draw kp__law_draw b__law_draw .nil pass0 (pa_cons (pv 1) (pa_cons pe_int pa_nil)))) (pa_cons (pe_op op_add pe_int (pe_call G__law_draw (hr.mono (by decide)) (by rfl) g__law_draw kp__law_draw b__law_draw .nil pass0 (pa_cons (pv 1) (pa_cons pe_int pa_nil)))) (pa_cons (pe_call G__law_pick (hr.mono (by decide)) (by rfl) g__law_pick kp__law_pick b__law_pick .nil pass0 (pa_cons (pv 1) (pa_cons (pe_lst (pa_cons pe_int (pa_cons pe_int (pa_cons pe_int pa_nil)))) pa_nil))) pa_nil)))) (pg_tupK (n := 3) K rfl rfl (pgs_cons (pg_name (i := 2) nd rfl (Or.inr rfl)) (pgs_cons (pg_name (i := 3) nd rfl (Or.inr rfl)) (pgs_cons (pg_name (i := 4) nd rfl (Or.inr rfl)) pgs_nil)))))
    (pss_cons (ps_asg (pe_call G__law_blocks (hr.mono (by decide)) (by rfl) g__law_blocks kp__law_blocks b__law_blocks .nil pass0 (pa_cons (pv 1) (pa_cons (pv 2) pa_nil))) (pg_tupK (n := 2) K rfl rfl (pgs_cons (pg_name (i := 5) nd rfl (Or.inr rfl)) (pgs_cons (pg_name (i := 6) nd rfl (Or.inl rfl)) pgs_nil))))
    (pss_cons (ps_set (i := 7) nd rfl (Or.inr rfl) (pe_slice sl_list (pe_lst (pa_cons pe_str (pa_cons pe_str pa_nil))) po_none (po_some (pe_call G__law_draw (hr.mono (by decide)) (by rfl) g__law_draw kp__law_draw b__law_draw .nil pass0 (pa_cons (pv 1) (pa_cons pe_int pa_nil))))))
    (pss_cons (ps_set (i := 8) nd rfl (Or.inr rfl) (pe_call G__law_deed_rows (hr.mono (by decide)) (by rfl) g__law_deed_rows kp__law_deed_rows b__law_deed_rows .nil pass0 (pa_cons (pv 1) (pa_cons (pv 2) (pa_cons (pv 7) (pa_cons (pv 6) pa_nil))))))
    hrest))))), fun D H a ns hs q => ?_⟩
  refine set_cps ⟨_, rfl, a, ns, rfl, hs, fun p H1 hpn s1 P1 => ?_⟩
  have hp : p ∈ [p] := List.mem_singleton_self p
  have o1 : Occ [p] H1 := fun z hz => by rw [List.mem_singleton.mp hz]; exact P1.there
  refine ie_set3C (K := K) (R3 := fun x y z => ∃ m l r : Int, x = .int m ∧ y = .int l ∧ z = .int r ∧ (3 ≤ m ∧ m ≤ 16) ∧ (1 ≤ l ∧ l ≤ 8) ∧ (0 ≤ r ∧ r ≤ 1000)) hp o1 P1 ((ie_tup hp (ia_cons hp (ie_op (f := fun x y => .int (intOf x + intOf y)) hp (ie_ev ev_int) (ie_drawK hp rfl ev_int (by decide) (by decide) (by decide)) (fun x y hx hy => by
      obtain ⟨r, rfl, _⟩ := hy
      rw [hx]
      exact rd_i0 fun _ => .int _)) (ia_cons hp (ie_op (f := fun x y => .int (intOf x + intOf y)) hp (ie_ev ev_int) (ie_drawK hp rfl ev_int (by decide) (by decide) (by decide)) (fun x y hx hy => by
      obtain ⟨r, rfl, _⟩ := hy
      rw [hx]
      exact rd_i0 fun _ => .int _)) (ia_cons hp (ie_pickK hp rfl (ev_lst (eva_cons ev_int (eva_cons ev_int (eva_cons ev_int eva_nil))) (line1000 (by simp))) (by simp) (by simp) (by decide)) ia_nil))) (by rintro _ ⟨_, _, rfl, _, _, _, rfl, _, _, _, rfl, _, rfl⟩; simp)).imp fun d h => ?_) fun x y z v1 v2 v3 H2 r3 s2 P2 d1 d2 d3 => ?_
  · obtain ⟨_, rfl, _, _, rfl, ⟨_, _, rfl, ⟨x, rfl, x0, x1⟩, rfl⟩, _, _, rfl, ⟨_, _, rfl, ⟨y, rfl, y0, y1⟩, rfl⟩, z, _, rfl, hz, rfl⟩ := h
    simp only [List.mem_cons, List.not_mem_nil, or_false] at hz
    refine ⟨_, _, _, rfl, 3 + x, 1 + y, (match z with | .int r => r | _ => 0), rfl, rfl, ?_, by omega, by omega, ?_⟩
    · rcases hz with rfl | rfl | rfl <;> rfl
    · rcases hz with rfl | rfl | rfl <;> exact ⟨by decide, by decide⟩
  obtain ⟨m, l, r, rfl, rfl, rfl, hm, hl, hr'⟩ := r3
  rw [d1.int_inv, d2.int_inv, d3.int_inv]
  clear d1 d2 d3
  have o2 := occ_step o1 s2 P2
  refine ie_set2C (K := K) (R2 := fun x y => ∃ (i : Nat) (fs cs : List PyData), i ≤ 2 ∧ FChain m i fs cs ∧ x = .list fs ∧ y = .list cs) o2 P2 ((ie_call hp rfl (ia_ev (ds := [.int m]) (eva_cons (ev_var (i := 2) rfl (.int m)) eva_nil)) (fun ds e => ⟨m, e, by omega, by omega⟩) (by decide)).imp fun d h => ?_) fun x y vf vc H3 r3 s3 P3 df dc => ?_
  · obtain ⟨ds, rfl, i, fs, cs, hi, hch, rfl⟩ := h
    exact ⟨_, _, rfl, i, fs, cs, hi, hch, rfl, rfl⟩
  obtain ⟨i, fs, cs, hi, hch, rfl, rfl⟩ := r3
  have o3 := occ_step o2 s3 P3
  obtain ⟨_, c2, c3⟩ := chain_small hch
  refine ie_setC (K := K) o3 P3 (ie_slL (ds := inpD) (RN := fun k => k ≤ 2) hp (ev_lst (eva_cons ev_str (eva_cons ev_str eva_nil)) (line1000 (by decide))) ((ie_drawK hp rfl ev_int (by decide) (by decide) (by decide)).imp fun d h => ?_)) fun d vi H4 h s4 P4 di => ?_
  · obtain ⟨r, rfl, h1, h2⟩ := h
    exact ⟨r.toNat, by rw [Int.toNat_of_nonneg h1], by omega⟩
  obtain ⟨k, hk, rfl⟩ := h
  have o4 := occ_step o3 s4 P4
  replace df := Dx.same (s4.hid hp) _ _ df
  replace dc := Dx.same (s4.hid hp) _ _ dc
  have hin : strsOk (inpD.take k) := fun x hx => by
    have h : x ∈ inpD := List.mem_of_mem_take hx
    unfold inpD at h
    simp only [List.mem_cons, List.not_mem_nil, or_false] at h
    rcases h with rfl | rfl <;> exact ⟨_, rfl, by decide +kernel⟩
  refine ie_setC (K := K) o4 P4 (ie_call hp rfl (ia_ev (ds := [.int m, .list (inpD.take k), .list cs]) (eva_cons (ev_var (i := 2) rfl (.int m)) (eva_cons (ev_var (i := 7) rfl di) (eva_cons (ev_var (i := 6) rfl dc) eva_nil)))) (fun ds e => ⟨m, _, cs, e, by omega, by omega, by rw [List.length_take]; omega, hin, by omega, c3⟩) (by decide)) fun d vr H5 h s5 P5 dr => ?_
  obtain ⟨ds, rfl, size, rs, hsz, hl5, rfl, hrs⟩ := h
  subst hl5
  exact q p m l r (inpD.take k) fs cs rs vf vc vi vr H5 ⟨hm, hl, hr', ⟨k, hk, rfl⟩, ⟨i, hi, hch⟩, hsz, hrs⟩ (fun b o e => (s2.trans (s3.trans (s4.trans s5))).1 b o (ne_of_none e hpn) (s1 b o e)) (P5.le (by decide)) hpn (Dx.same (s5.hid hp) _ _ df) (Dx.same (s5.hid hp) _ _ dc) (Dx.same (s5.hid hp) _ _ di) dr
end
end K81
namespace K81
open PySem PySem.Spec PyProof.Rows L2

theorem dxall_of {K : PySem.W.Frag} {G : Hp} : ∀ {xs : List V} {ds : List PyData}, xs.length = ds.length → (∀ (i : Nat) (x : V) (d : PyData), xs[i]? = some x → ds[i]? = some d → Dx K G x d) → DxAll K G xs ds
  | [], [], _, _ => .nil
  | x :: xs, d :: ds, h, q => .cons (q 0 x d rfl rfl) (dxall_of (Nat.succ.inj h) fun i x d h1 h2 => q (i + 1) x d h1 h2)
theorem plain_ne {m : Int} {names calls : List PyData} {d : PyData} (h : plainOk m names calls d) : ∃ x xs, d = .tuple (x :: xs) := by
  obtain ⟨r0, r1, r2, r3, h0, h1, h2, h3, h⟩ := h
  rcases h with ⟨k, hk, rfl⟩ | ⟨x, hx, rfl⟩ | rfl | rfl | rfl | ⟨k, hk, rfl⟩ | rfl | ⟨k, hk, rfl⟩ | ⟨x, hx, rfl⟩ | ⟨x, hx, rfl⟩ | rfl | ⟨x, hx, rfl⟩ <;> exact ⟨_, _, rfl⟩
theorem deed_ne {m : Int} {names calls fs : List PyData} {i size : Nat} {d : PyData} (h : deedOk m names calls fs i size d) : ∃ x xs, d = .tuple (x :: xs) := by
  obtain ⟨x, one, two, t, hx, h1, h2, ht, h⟩ := h
  rcases h with rfl | rfl | rfl | rfl | rfl | rfl | rfl | h <;> first | exact ⟨_, _, rfl⟩ | exact plain_ne h
theorem chain_shape {m : Int} : ∀ {i : Nat} {fs cs : List PyData}, FChain m i fs cs → ∀ f ∈ fs, ∃ (n : Str) (ps bs : List PyData), f = .tuple [.str n, .list ps, .list bs] ∧ bs.length ≤ 3 ∧ ∀ b ∈ bs, ∃ rows, b = .list rows
  | 0, _, _, ⟨rfl, _⟩, f, hf => by cases hf
  | i + 1, _, _, ⟨fs, cs, h, k, bl, _, _, h3, hb, rfl, _⟩, f, hf => by
    rcases List.mem_append.mp hf with hf | hf
    · exact chain_shape h f hf
    · rw [List.mem_singleton.mp hf]
      exact ⟨_, _, _, rfl, h3, fun b hb' => (hb b hb').elim fun rows h => ⟨rows, h.1⟩⟩
def refA : V → Addr
  | .ref a => a
  | _ => 0
/-- a list that holds something -/
def LstNe (H : Hp) (x : V) : Prop := ∃ y ys, H (refA x) = some (.lst (y :: ys)) ∧ x = .ref (refA x)
/-- what a row's list is at -/
def RowAt (K : PySem.W.Frag) (H1 : Hp) (rs : List PyData) (i : Nat) (v : V) (G : Hp) : Prop := ∃ (a : Addr) (x : V) (ys : List V) (d : PyData), v = .ref a ∧ H1 a = none ∧ G a = some (.lst (x :: ys)) ∧ rs[i]? = some d ∧ DxAll K G (x :: ys) (itemsOf d)
def dueD (m l r : Int) (inp fs rs : List PyData) : PyData := .tuple [.int l, .int r, .int m, .tuple inp, .tuple (fs.map keepF), .tuple rs]
def codeG (m l r : Int) (inp fs rs : List PyData) : List (Str × PyData) := codeF (.int l) (.int r) (.int m) (.tuple inp) (.tuple (fs.map keepF)) (.tuple rs)
section
variable {P : Program} {w : World} {K : PySem.W.Frag} {mg : Str → Option Value} {base : Heap} {C CEr fc fe f : Addr} {fdc fde : FuncData} {CX : Nat → Addr} {cdv : Value} {A : Around} {outer : List Env} {s : Shared} {H0 : Hp} {E : XK} {u : TS}
theorem GoodX.args {m l r : Int} {inp fs cs rs : List PyData} (g : GoodX m l r inp fs cs rs) : smallQ (.list inp) ∧ smallQ (.tuple inp) ∧ (smallD (.list fs) = true ∧ (PyData.list fs).depth ≤ 20 ∧ triHead (fixD (.list fs))) ∧ (smallD (.tuple (fs.map keepF)) = true ∧ (PyData.tuple (fs.map keepF)).depth ≤ 20 ∧ triHead (fixD (.tuple (fs.map keepF)))) ∧
    (smallD (.list rs) = true ∧ (PyData.list rs).depth ≤ 20) ∧ (smallD (.tuple rs) = true ∧ (PyData.tuple rs).depth ≤ 20) ∧ (smallD (.list (rs ++ [spendD])) = true ∧ (PyData.list (rs ++ [spendD])).depth ≤ 20) ∧ (smallD (.list (rs.map listOf)) = true ∧ (PyData.list (rs.map listOf)).depth ≤ 20) := by
  obtain ⟨i, hi, hch⟩ := g.pfs
  have gf := good_funs hi hch
  obtain ⟨k, hk, hin⟩ := g.pinp
  obtain ⟨hfl, _⟩ := chain_small hch
  have rl := g.prl
  have i1 : smallD (.list inp) = true ∧ smallD (.tuple inp) = true := by
    subst hin
    rcases (by omega : k = 0 ∨ k = 1 ∨ k = 2) with rfl | rfl | rfl <;> exact ⟨by decide +kernel, by decide +kernel⟩
  have f1 : smallD (.list fs) = true := of_small_list (by omega) fun x hx => (gf.small x hx).1
  have f2 : (PyData.list fs).depth ≤ 20 := depth_list (n := 19).mpr fun x hx => Nat.le_trans (gf.small x hx).2 (by decide)
  obtain ⟨g1, g2⟩ := g.fixFuns
  have f3 : triHead (fixD (.list fs)) := by
    rw [g1]
    intro _ y hy
    exact gf.tri y (List.dropLast_subset _ hy)
  have r1 : smallD (.list rs) = true := of_small_list (by omega) fun x hx => ((g.row x hx).elim fun _ h => h.2.2.2.2.1)
  have r2 : (PyData.list rs).depth ≤ 20 := depth_list (n := 19).mpr fun x hx => Nat.le_trans ((g.row x hx).elim fun _ h => h.2.2.2.2.2) (by decide)
  have hs : ∀ x ∈ rs ++ [spendD], smallD x = true ∧ x.depth ≤ 1 := fun x hx => by
    rcases List.mem_append.mp hx with hx | hx
    · exact ((g.row x hx).elim fun _ h => h.2.2.2.2)
    · rw [List.mem_singleton.mp hx]; decide +kernel
  have hl : ∀ x ∈ rs.map listOf, smallD x = true ∧ x.depth ≤ 1 := fun x hx => by
    obtain ⟨d, hd, rfl⟩ := List.mem_map.mp hx
    obtain ⟨xs, rfl, h1, _, _, h2, h3⟩ := g.row d hd
    obtain ⟨a1, a2⟩ := small_tuple h2
    exact ⟨of_small_list a1 a2, depth_list (n := 0).mpr (depth_tuple (n := 0).mp h3)⟩
  refine ⟨.inl i1.1, .inl i1.2, ⟨f1, f2, f3⟩, ⟨?_, ?_, ?_⟩, ⟨r1, r2⟩, ⟨?_, ?_⟩, ⟨?_, ?_⟩, ?_, ?_⟩
  · rw [← g1]; exact fixD_small _ f1
  · rw [← g1, fixD_depth]; exact f2
  · rw [g2, ← g1]; exact f3
  · exact of_small_tuple (small_list r1).1 (small_list r1).2
  · exact depth_tuple (n := 19).mpr (depth_list (n := 19).mp r2)
  · exact of_small_list (by rw [List.length_append, List.length_singleton]; omega) fun x hx => (hs x hx).1
  · exact depth_list (n := 19).mpr fun x hx => Nat.le_trans (hs x hx).2 (by decide)
  · exact of_small_list (by rw [List.length_map]; omega) fun x hx => (hl x hx).1
  · exact depth_list (n := 19).mpr fun x hx => Nat.le_trans (hl x hx).2 (by decide)
end
end K81
namespace K81
open PySem PySem.Spec PyProof.Rows L2

section
variable {P : Program} {w : World} {K : PySem.W.Frag} {mg : Str → Option Value} {base : Heap} {C CEr fc fe f : Addr} {fdc fde : FuncData} {CX : Nat → Addr} {cdv : Value} {A : Around} {outer : List Env} {s : Shared} {H0 : Hp} {E : XK} {u : TS}
theorem GoodX.fixInp {m l r : Int} {inp fs cs rs : List PyData} (g : GoodX m l r inp fs cs rs) : fixD (.tuple inp) = .tuple inp := by
  obtain ⟨k, hk, hin⟩ := g.pinp
  subst hin
  rcases (by omega : k = 0 ∨ k = 1 ∨ k = 2) with rfl | rfl | rfl <;> rfl
theorem seg2 (L : LawC P w K mg base C CEr fc fe fdc fde CX) (hr : Room 26 (A.deeper (envOfC "law" (defScope s_law) s.heap.objs.size f cdv))) (hrest : PSs (LX P w K mg base f cdv A outer s H0 E) (lawB 11) u) :
    ∃ t, PSs (LX P w K mg base f cdv A outer s H0 E) (lawB 5) t ∧ ∀ (D : Ends) (a p : Addr) (m l r : Int) (inp fs cs rs : List PyData) (vf vc vi vr : V) (H1 : Hp), GoodX m l r inp fs cs rs → Pen K p 1000 H1 → Dx K (hid [p] H1) vf (.list fs) → Dx K (hid [p] H1) vi (.list inp) → Dx K (hid [p] H1) vr (.list rs) →
      (∀ (Z : List Addr) (vh vk vd : V) (x : Addr) (v13 : Option V) (H2 : Hp), p ∈ Z → Occ Z H2 → SB p H1 H2 → Pen K p 1000 H2 → Same (hid [p] H1) (hid Z H2) → Dx K (hid Z H2) vk (.tuple (fs.map keepF)) → Dx K (hid Z H2) vd (dueD m l r inp fs rs) → InsD K C (hid Z H2) x (codeG m l r inp fs rs) →
        u D (st1 a p m l r vf vc vi vr ([some vh, some (.ref x), some vk, some vd, v13] ++ List.replicate 10 none)) H2) → t D (st1 a p m l r vf vc vi vr (List.replicate 15 none)) H1 := by
  have T := L.T
  have nd := sc_law.nd
  have M_Code := L.mkC
  have F_Code := L.fC
  have b_Code := L.bC
  have g_Code := L.ck.g
  refine ⟨_, (pss_cons (ps_setLc (i := 9) (own := [("_law_row", 13)]) rfl nd rfl rfl (sw_true rfl rfl rfl (by decide +kernel)) (pi_list (pv 8)) (blkOk_by (N := N_law) (sc := defScope s_law) (by decide +kernel)) (fun _ _ _ _ _ => (pg_name (i := 13) nd rfl (Or.inl rfl))) (fun _ _ _ _ _ => pts_nil) (fun _ _ _ _ _ => (pe_callTy (r := fun xs H Q => ∃ p ys, xs = [.ref p] ∧ (SqL K H p ys ∨ SqT K H p ys) ∧ ∀ l, H l = none → Q (.ref l) (upd H l (.lst ys))) call_list_of (by rfl) T.b_list boot_list (pa_cons (pv 13) pa_nil))))
    (pss_cons (ps_set (i := 10) nd rfl (Or.inl rfl) (pe_make M_Code F_Code (hr.mono (by decide)) (by rfl) g_Code b_Code .nil passL (pa_cons (pv 3) (pa_cons (pv 4) (pa_cons (pv 2) (pa_cons (pv 7) (pa_cons (pv 5) (pa_cons (pv 9) pa_nil))))))))
    (pss_cons (ps_set (i := 11) nd rfl (Or.inl rfl) (pe_callTy (r := fun xs H Q => ∃ p ys, xs = [.ref p] ∧ ((SqL K H p ys ∧ ∀ l, H l = none → Q (.ref l) (upd H l (.tup ys))) ∨ (SqT K H p ys ∧ Q (.ref p) H))) call_tuple_of (by rfl) T.b_tuple boot_tuple (pa_cons (pe_lc (own := [("_law_name", 19), ("_law_parameters", 20), ("_law_blocks_here", 21)]) rfl nd (pi_list (pv 5)) (blkOk_by (N := N_law) (sc := defScope s_law) (by decide +kernel)) (fun _ _ _ _ _ => (pg_tupK (n := 3) K rfl rfl (pgs_cons (pg_name (i := 19) nd rfl (Or.inl rfl)) (pgs_cons (pg_name (i := 20) nd rfl (Or.inl rfl)) (pgs_cons (pg_name (i := 21) nd rfl (Or.inl rfl)) pgs_nil))))) (fun _ _ _ _ _ => pts_nil) (fun _ _ _ _ _ => (pe_tup (pa_cons (pv 19) (pa_cons (pe_callTy (r := fun xs H Q => ∃ p ys, xs = [.ref p] ∧ ((SqL K H p ys ∧ ∀ l, H l = none → Q (.ref l) (upd H l (.tup ys))) ∨ (SqT K H p ys ∧ Q (.ref p) H))) call_tuple_of (by rfl) T.b_tuple boot_tuple (pa_cons (pv 20) pa_nil)) (pa_cons (pe_callTy (r := fun xs H Q => ∃ p ys, xs = [.ref p] ∧ ((SqL K H p ys ∧ ∀ l, H l = none → Q (.ref l) (upd H l (.tup ys))) ∨ (SqT K H p ys ∧ Q (.ref p) H))) call_tuple_of (by rfl) T.b_tuple boot_tuple (pa_cons (pe_lc (own := [("_law_block", 22)]) rfl nd (pi_listK K rfl (pv 21)) (blkOk_by (by kernel_rfl)) (fun _ _ _ _ _ => (pg_name (i := 22) nd rfl (Or.inl rfl))) (fun _ _ _ _ _ => pts_nil) (fun _ _ _ _ _ => (pe_callTy (r := fun xs H Q => ∃ p ys, xs = [.ref p] ∧ ((SqL K H p ys ∧ ∀ l, H l = none → Q (.ref l) (upd H l (.tup ys))) ∨ (SqT K H p ys ∧ Q (.ref p) H))) call_tuple_of (by rfl) T.b_tuple boot_tuple (pa_cons (pv 22) pa_nil)))) pa_nil)) pa_nil)))))) pa_nil)))
    (pss_cons (ps_set (i := 12) nd rfl (Or.inl rfl) (pe_tup (pa_cons (pv 3) (pa_cons (pv 4) (pa_cons (pv 2) (pa_cons (pe_callTy (r := fun xs H Q => ∃ p ys, xs = [.ref p] ∧ ((SqL K H p ys ∧ ∀ l, H l = none → Q (.ref l) (upd H l (.tup ys))) ∨ (SqT K H p ys ∧ Q (.ref p) H))) call_tuple_of (by rfl) T.b_tuple boot_tuple (pa_cons (pv 7) pa_nil)) (pa_cons (pv 11) (pa_cons (pe_callTy (r := fun xs H Q => ∃ p ys, xs = [.ref p] ∧ ((SqL K H p ys ∧ ∀ l, H l = none → Q (.ref l) (upd H l (.tup ys))) ∨ (SqT K H p ys ∧ Q (.ref p) H))) call_tuple_of (by rfl) T.b_tuple boot_tuple (pa_cons (pv 8) pa_nil)) pa_nil))))))))
    (pss_cons (ps_expr (pe_bm PySem.F.plainAttrs_list PySem.F.slot_list_append PySem.F.type_list_append mt_append (pv 9) (pa_cons (pe_lst (pa_cons pe_str pa_nil)) pa_nil)))
    (pss_cons (ps_for PassesOwn.never rfl (pi_list (pv 9)) (pg_name (i := 13) nd rfl (Or.inl rfl)) (pss_one (ps_asg pe_str (pg_sub (pv 13) pe_int set_list))))
    hrest)))))), fun D a p m l r inp fs cs rs vf vc vi vr H1 g P1 df di dr q => ?_⟩
  have hp : p ∈ [p] := List.mem_singleton_self p
  have o1 : Occ [p] H1 := fun z hz => by rw [List.mem_singleton.mp hz]; exact P1.there
  have rl := g.prl
  obtain ⟨ci, hci, hch⟩ := g.pfs
  have shp := chain_shape hch
  have fl : fs.length ≤ 2 := by obtain ⟨e, _⟩ := chain_small hch; omega
  obtain ⟨q1, q2, ⟨qf1, qf2, qf3⟩, _, _, _, _, ⟨ql1, ql2⟩⟩ := g.args
  -- handed
  refine set_cps (lc_v (K := K) (n := 1000) (k := 0) (R := RowAt K H1 rs) (items := rs) hp ?_ (iw_list hp ((ie_ev (ev_var (i := 8) rfl dr)).imp fun d e => ⟨rs, e, rfl⟩)) (by omega) ?_ H1 (Same.refl _) o1 P1 _ fun D1 xs H2 hD s12 P2 hDx hlen hx => ?_)
  · rintro i v A B sAB ⟨a, x, ys, d, rfl, h1, h2, h3, h4⟩
    exact ⟨a, x, ys, d, rfl, h1, sAB _ _ h2, h3, DxAll.same sAB _ _ h4⟩
  · intro Z' i d G' hp' _ hd sG
    refine eg_name fun v G4 s4 dv => ⟨rfl, fun H sH oH PH Q qq => ?_⟩
    obtain ⟨y, ys, rfl⟩ := deed_ne (g.prs i d hd)
    obtain ⟨c, xs, rfl, hs, ha⟩ := dv.tup_inv
    have hs2 : SqT K H c xs := same_t hid_sub (same_t sH hs)
    refine ⟨.ref c, rfl, c, xs, rfl, .inr hs2, fun b hb => ?_⟩
    have hbZ : b ∉ Z' := oH.new hb
    refine qq (.ref b) _ ?_ (.of (same_upd hb)) (PH.same (same_upd hb))
    have hx : ∃ z zs, xs = z :: zs := by
      cases ha with | cons _ _ => exact ⟨_, _, rfl⟩
    obtain ⟨z, zs, rfl⟩ := hx
    refine ⟨b, z, zs, _, rfl, ?_, hid_upd hbZ, hd, DxAll.same (sH.trans (same_hid (same_upd hb))) _ _ ha⟩
    cases e : H1 b with
    | none => rfl
    | some o =>
      have nb : b ∉ [p] := fun z => hbZ (by rw [List.mem_singleton.mp z]; exact hp')
      have e1 : hid [p] H1 b = some o := by rw [hid_out nb]; exact e
      have e2 := hid_sub _ _ (sH _ _ (s4 _ _ (sG _ _ e1)))
      rw [hb] at e2; cases e2
  have hDp : D1 ≠ p := fun e => P1.there (e ▸ hD)
  have o2 := occ_step o1 s12 P2
  have sG12 : Same (hid [p] H1) (hid [p] H2) := s12.hid hp
  have less : Same (hid (D1 :: [p]) H2) (hid [p] H2) := hid_less fun b hb => List.mem_cons_of_mem _ hb
  have nDp : D1 ∉ [p] := fun z => hDp (List.mem_singleton.mp z)
  have dH : Dx K (hid [p] H2) (.ref D1) (.list (rs.map listOf)) := by
    refine .lst (by rw [hid_out nDp]; exact hDx) (dxall_of (by rw [hlen, List.length_map]) fun i x d h1 h2 => ?_)
    obtain ⟨b, y, ys, e, rfl, _, hb, he, hA⟩ := hx i x h1
    rw [List.getElem?_map, he] at h2
    cases h2
    exact .lst (less _ _ hb) (DxAll.same less _ _ hA)
  -- the code
  refine set_cps (sem_make (K := K) (Z := [p]) (C := C) o2 (eva_cons (ev_var (i := 3) rfl (.int l)) (eva_cons (ev_var (i := 4) rfl (.int r)) (eva_cons (ev_var (i := 2) rfl (.int m)) (eva_cons (ev_var (i := 7) rfl (Dx.same sG12 _ _ di)) (eva_cons (ev_var (i := 5) rfl (Dx.same sG12 _ _ df)) (eva_cons (ev_var (i := 9) rfl dH) eva_nil)))))) ⟨q1, qf1, qf2, qf3, ql1, ql2⟩ (fun _ x H3 s23 hxp hI => ?_) fun Cx pt e => ?_)
  rotate_left
  · have ok := g.ok (f := .list fs) (w := .list (rs.map listOf)) (.inl rfl) g.fixFuns.1 (.inl g.fixRows.1)
    rw [codeBad_none ok] at e; cases e
  rw [g.fixFuns.1, g.fixRows.1] at hI
  have o3 := o2.same s23
  have s13 : SB p H1 H3 := s12.trans (.of s23)
  have sG13 : Same (hid [p] H1) (hid [p] H3) := s13.hid hp
  -- kept
  refine ev_setC (K := K) o3 (d := .tuple (fs.map keepF)) (ev_cb (eva_cons (ev_lc (f := keepF) (evi_list (ev_var (i := 5) rfl (Dx.same sG13 _ _ df))) (line1000 (by omega)) fun Z' j d G' hj sG => ?_) eva_nil) rc_tupL) fun vk H4 s34 dk => ?_
  · obtain ⟨nm, ps, bs, rfl, hb3, hbs⟩ := shp d (List.mem_of_getElem? hj)
    refine eg_three fun v1 v2 v3 G4 s4 d1 d2 d3 => ⟨rfl, ?_⟩
    refine ev_tup (eva_cons (ev_var rfl d1) (eva_cons (ev_cb (eva_cons (ev_var rfl d2) eva_nil) rc_tupL) (eva_cons (ev_cb (eva_cons (ev_lc (f := tupOf) (evi_list (ev_var rfl d3)) (line1000 (by omega)) fun Z2 j2 b G5 hj2 s5 => eg_name fun v4 G6 s6 d4 => ⟨rfl, ?_⟩) eva_nil) rc_tupL) eva_nil))) (line1000 (by simp))
    obtain ⟨rows, rfl⟩ := hbs b (List.mem_of_getElem? hj2)
    exact ev_cb (eva_cons (ev_var rfl d4) eva_nil) rc_tupL
  have o4 := o3.same s34
  have s14 : SB p H1 H4 := s13.trans (.of s34)
  have sG14 : Same (hid [p] H1) (hid [p] H4) := s14.hid hp
  -- due
  refine ev_setC (K := K) o4 (d := dueD m l r inp fs rs) (ev_tup (eva_cons (ev_var (i := 3) rfl (.int l)) (eva_cons (ev_var (i := 4) rfl (.int r)) (eva_cons (ev_var (i := 2) rfl (.int m)) (eva_cons (ev_cb (eva_cons (ev_var (i := 7) rfl (Dx.same sG14 _ _ di)) eva_nil) rc_tupL) (eva_cons (ev_var (i := 11) rfl dk) (eva_cons (ev_cb (eva_cons (ev_var (i := 8) rfl (Dx.same sG14 _ _ dr)) eva_nil) rc_tupL) eva_nil)))))) (line1000 (by simp))) fun vd H5 s45 dd => ?_
  have s25 : Same H2 H5 := s23.trans (s34.trans s45)
  have s15 : SB p H1 H5 := s12.trans (.of s25)
  have P5 : Pen K p 1000 H5 := P2.same s25
  replace dk := Dx.same (same_hid s45) _ _ dk
  replace hI := hI.same (same_hid (s34.trans s45))
  -- the lists that are to be written
  have hx5 : ∀ x ∈ xs, LstNe H5 x ∧ H1 (refA x) = none ∧ refA x ≠ p ∧ refA x ≠ D1 := fun x hm => by
    obtain ⟨i, hi⟩ := List.getElem?_of_mem hm
    obtain ⟨b, y, ys, e, rfl, hb1, hb, he, hA⟩ := hx i x hi
    have hbo := hid_some hb
    exact ⟨⟨y, ys, s25 _ _ hbo.2, rfl⟩, hb1, fun z => P1.there (z ▸ hb1), fun z => hbo.1 (by rw [show b = D1 from z]; exact List.mem_cons_self)⟩
  -- one more
  refine append_cps (K := K) (F := D1) (xs := xs) (i := 9) rfl (s25 _ _ hDx) ⟨by simp [sizeLine_eq], fun S hS => app_of (xs := xs) (by rw [upd_ne (ne_of_none (s25 _ _ hDx) hS)]; exact s25 _ _ hDx) (by omega) ?_⟩
  have hS1 : H1 S = none := by
    cases e : H1 S with
    | none => rfl
    | some o =>
      by_cases hSp : S = p
      · exact absurd (hSp ▸ hS) P5.there
      · rw [s15.1 _ _ hSp e] at hS; cases hS
  have hSp : S ≠ p := fun z => P5.there (z ▸ hS)
  have hSD : S ≠ D1 := fun z => by rw [z, s25 _ _ hDx] at hS; cases hS
  generalize hys : xs ++ [V.ref S] = ys
  let as : List Addr := ys.map refA
  let Z : List Addr := D1 :: p :: as
  have hpZ : p ∈ Z := List.mem_cons_of_mem _ List.mem_cons_self
  generalize hH6 : upd (upd H5 S (.lst [V.str "spend"])) D1 (.lst ys) = H6
  have hys6 : ∀ y ∈ ys, LstNe H6 y ∧ H1 (refA y) = none ∧ refA y ≠ p ∧ refA y ≠ D1 := fun y hy => by
    rw [← hys] at hy
    rcases List.mem_append.mp hy with hy | hy
    · obtain ⟨⟨z, zs, e1, e2⟩, h2, h3, h4⟩ := hx5 y hy
      refine ⟨⟨z, zs, ?_, e2⟩, h2, h3, h4⟩
      rw [← hH6]
      rw [upd_ne h4, upd_ne (ne_of_none e1 hS)]; exact e1
    · rw [List.mem_singleton.mp hy]
      refine ⟨⟨.str "spend", [], ?_, rfl⟩, hS1, hSp, hSD⟩
      rw [← hH6]
      show upd (upd H5 S _) D1 _ S = _
      rw [upd_ne hSD, upd_same]
  have s16 : SB p H1 H6 := ⟨fun b o nb e => by
      rw [← hH6]
      rw [upd_ne (ne_of_none e hD), upd_ne (ne_of_none e hS1)]; exact s15.1 _ _ nb e, fun w a r e => by
      obtain ⟨a', r', e2⟩ := s15.2 w a r e
      refine ⟨a', r', ?_⟩
      rw [← hH6]
      rw [upd_ne hDp.symm, upd_ne hSp.symm]; exact e2⟩
  have P6 : Pen K p 1000 H6 := pen_after P1 s16 (by
      rw [← hH6]
      rw [upd_ne hDp.symm, upd_ne hSp.symm]) P5
  have hD6 : H6 D1 = some (.lst ys) := by rw [← hH6]; exact upd_same
  have hZ5 : ∀ z ∈ as, z ≠ S → ∃ zs, H5 z = some (.lst zs) := fun z hz hn => by
    obtain ⟨y, hy, rfl⟩ := List.mem_map.mp hz
    rw [← hys] at hy
    rcases List.mem_append.mp hy with hy | hy
    · obtain ⟨⟨z, zs, e1, e2⟩, _⟩ := hx5 y hy
      exact ⟨_, e1⟩
    · rw [List.mem_singleton.mp hy] at hn; exact absurd rfl hn
  -- what stays
  have keep5 : ∀ b o, b ∉ Z → H5 b = some o → H6 b = some o := fun b o hb e => by
    rw [← hH6]
    rw [upd_ne fun z => hb (by rw [z]; exact List.mem_cons_self), upd_ne (ne_of_none e hS)]; exact e
  have hid5 : Same (hid Z H5) (hid Z H6) := same_but keep5
  -- lists only are hidden
  have hlst : ∀ z ∈ D1 :: (xs.map refA), ∃ zs, hid [p] H5 z = some (.lst zs) := fun z hz => by
    rcases List.mem_cons.mp hz with rfl | hz
    · exact ⟨xs, by rw [hid_out nDp]; exact s25 _ _ hDx⟩
    · obtain ⟨y, hy, rfl⟩ := List.mem_map.mp hz
      obtain ⟨⟨z, zs, e1, _⟩, _, h3, _⟩ := hx5 y hy
      exact ⟨_, by rw [hid_out fun z => h3 (List.mem_singleton.mp z)]; exact e1⟩
  have toZ : Same (hid (D1 :: (xs.map refA)) (hid [p] H5)) (hid Z H6) := fun b o e => by
    obtain ⟨e1, e2⟩ := hid_some e
    obtain ⟨e3, e4⟩ := hid_some e2
    have hbS : b ≠ S := ne_of_none e4 hS
    have hbZ : b ∉ Z := fun z => by
      rcases List.mem_cons.mp z with z | z
      · exact e1 (by rw [z]; exact List.mem_cons_self)
      rcases List.mem_cons.mp z with z | z
      · exact e3 (by rw [z]; exact List.mem_singleton_self _)
      · obtain ⟨y, hy, rfl⟩ := List.mem_map.mp z
        rw [← hys] at hy
        rcases List.mem_append.mp hy with hy | hy
        · exact e1 (List.mem_cons_of_mem _ (List.mem_map_of_mem hy))
        · rw [List.mem_singleton.mp hy] at hbS; exact hbS rfl
    rw [hid_out hbZ]; exact keep5 _ _ hbZ e4
  have fixdue : fixD (dueD m l r inp fs rs) = dueD m l r inp fs rs := by
    unfold dueD
    rw [fixD_tuple]
    simp only [List.map_cons, List.map_nil]
    rw [g.fixInp, g.fixFuns.2, g.fixRows.2.1]; rfl
  have dk6 : Dx K (hid Z H6) vk (.tuple (fs.map keepF)) := Dx.same toZ _ _ (dk.hidL hlst g.fixFuns.2)
  have dd6 : Dx K (hid Z H6) vd (dueD m l r inp fs rs) := Dx.same toZ _ _ (dd.hidL hlst fixdue)
  have hI6 : InsD K C (hid Z H6) x (codeG m l r inp fs rs) := (hI.hidL hlst fun q hq => by
    unfold codeF at hq
    simp only [List.mem_cons, List.not_mem_nil, or_false] at hq
    rcases hq with rfl | rfl | rfl | rfl | rfl | rfl
    · rfl
    · rfl
    · rfl
    · exact g.fixInp
    · exact g.fixFuns.2
    · exact g.fixRows.2.1).same toZ
  have sZ1 : Same (hid [p] H1) (hid Z H6) := fun b o e => by
    obtain ⟨e1, e2⟩ := hid_some e
    have hbZ : b ∉ Z := fun z => by
      rcases List.mem_cons.mp z with z | z
      · rw [z, hD] at e2; cases e2
      rcases List.mem_cons.mp z with z | z
      · exact e1 (by rw [z]; exact List.mem_singleton_self _)
      · obtain ⟨y, hy, rfl⟩ := List.mem_map.mp z
        rw [(hys6 y hy).2.1] at e2; cases e2
    rw [hid_out hbZ]; exact s16.1 _ _ (fun z => e1 (by rw [z]; exact List.mem_singleton_self _)) e2
  -- the writing
  refine nx_of (seq_for (for_cps ?_))
  refine ⟨.ref D1, rfl, D1, rfl, ⟨ys, .inl (.inl hD6)⟩, ?_⟩
  refine for_it (walk_list (K := K) (a := D1) (xs := ys)) (fun _ σ H => ∃ v13, σ = st1 a p m l r vf vc vi vr ([some (.ref D1), some (.ref x), some vk, some vd, v13] ++ List.replicate 10 none) ∧ H D1 = some (.lst ys) ∧ (∀ y ∈ ys, LstNe H y) ∧ SB p H1 H ∧ H p = H6 p ∧ Same (hid Z H6) (hid Z H)) ?_ (fun i σ H _ h => ?_) ?_ ?_
  · exact ⟨_, rfl, hD6, fun y hy => (hys6 y hy).1, s16, rfl, Same.refl _⟩
  · obtain ⟨_, _, hd, _⟩ := h
    exact .inl (.inl hd)
  · rintro i y σ H H' hlt ⟨v13, rfl, hd, hne, s1H, ep, s6H⟩ ⟨rfl, hy⟩
    have hm := List.mem_of_getElem? hy
    obtain ⟨⟨z, zs, e1, e2⟩, h2, h3, h4⟩ := And.intro (hne y hm) (hys6 y hm).2
    refine ⟨y, rfl, refA y, z :: zs, 0, 0, e2, rfl, e1, by simp [ixN], ?_⟩
    refine ⟨_, rfl, ?_, fun y' hy' => ?_, ?_, ?_, ?_⟩
    · rw [upd_ne h4.symm]; exact hd
    · obtain ⟨z', zs', e1', e2'⟩ := hne y' hy'
      by_cases q : refA y' = refA y
      · exact ⟨.str "go", zs, by rw [q, upd_same]; rfl, e2'⟩
      · exact ⟨z', zs', by rw [upd_ne q]; exact e1', e2'⟩
    · exact ⟨fun b o nb e => by rw [upd_ne (ne_of_none e h2)]; exact s1H.1 _ _ nb e, fun w a r e => by rw [upd_ne h3.symm]; exact s1H.2 w a r e⟩
    · rw [upd_ne h3.symm]; exact ep
    · refine s6H.trans (same_but fun b o hb e => ?_)
      rw [upd_ne fun z => hb (by rw [z]; exact List.mem_cons_of_mem _ (List.mem_cons_of_mem _ (List.mem_map_of_mem hm)))]; exact e
  · rintro σ H ⟨v13, rfl, hd, hne, s1H, ep, s6H⟩
    have PH := pen_after P1 s1H ep P6
    refine q Z (.ref D1) vk vd x v13 H hpZ (fun z hz => ?_) s1H PH (sZ1.trans s6H) (Dx.same s6H _ _ dk6) (Dx.same s6H _ _ dd6) (hI6.same s6H)
    rcases List.mem_cons.mp hz with rfl | hz
    · rw [hd]; simp
    rcases List.mem_cons.mp hz with rfl | hz
    · exact PH.there
    · obtain ⟨y, hy, rfl⟩ := List.mem_map.mp hz
      obtain ⟨z, zs, e1, _⟩ := hne y hy
      rw [e1]; simp
end
end K81
namespace K81
open PySem PySem.Spec PyProof.Rows L2

theorem eqvAll_more {y : PyData} : ∀ xs : List PyData, PyData.eqvAll xs (xs ++ [y]) = false
  | [] => rfl
  | x :: xs => by
    show PyData.eqvAll (x :: xs) (x :: (xs ++ [y])) = false
    rw [PyData.eqvAll, eqvAll_more xs, Bool.and_false]
section
variable {P : Program} {w : World} {K : PySem.W.Frag} {mg : Str → Option Value} {base : Heap} {C CEr fc fe f : Addr} {fdc fde : FuncData} {CX : Nat → Addr} {cdv : Value} {A : Around} {outer : List Env} {s : Shared} {H0 : Hp} {E : XK} {u : TS}
theorem GoodX.inps {m l r : Int} {inp fs cs rs : List PyData} (g : GoodX m l r inp fs cs rs) : smallD (.tuple inp) = true ∧ (PyData.tuple inp).depth ≤ 40 := by
  obtain ⟨k, hk, hin⟩ := g.pinp
  subst hin
  rcases (by omega : k = 0 ∨ k = 1 ∨ k = 2) with rfl | rfl | rfl <;> exact ⟨by decide +kernel, by decide +kernel⟩
theorem GoodX.okF {m l r : Int} {inp fs cs rs rs2 : List PyData} (g : GoodX m l r inp fs cs rs) (h : rs2 = rs ∨ rs2 = rs ++ [spendD]) : OkF (.int l) (.int r) (.int m) (.tuple inp) (.tuple (fs.map keepF)) (.tuple rs2) := by
  obtain ⟨_, _, _, ⟨f1, f2, _⟩, _, ⟨r1, r2⟩, ⟨a1, a2⟩, _⟩ := g.args
  refine ⟨⟨rfl, Nat.zero_le _⟩, ⟨rfl, Nat.zero_le _⟩, ⟨rfl, Nat.zero_le _⟩, g.inps, ⟨f1, Nat.le_trans f2 (by decide)⟩, ?_⟩
  rcases h with rfl | rfl
  · exact ⟨r1, Nat.le_trans r2 (by decide)⟩
  · have a3 := small_list a1
    exact ⟨of_small_tuple a3.1 a3.2, Nat.le_trans (depth_tuple (n := 19).mpr (depth_list (n := 19).mp a2)) (by decide)⟩
theorem eqv_small {d : PyData} (h : smallD d = true) : PyData.eqv d d = true := PySem.SeqAt.eqv_refl d (canLay_small d h)
theorem GoodX.eqs {m l r : Int} {inp fs cs rs : List PyData} (g : GoodX m l r inp fs cs rs) :
    eqCode (.int l) (.int r) (.int m) (.tuple inp) (.tuple (fs.map keepF)) (.tuple rs) (.int l) (.int r) (.int m) (.tuple inp) (.tuple (fs.map keepF)) (.tuple rs) = true ∧
    eqCode (.int l) (.int r) (.int m) (.tuple inp) (.tuple (fs.map keepF)) (.tuple rs) (.int l) (.int r) (.int m) (.tuple inp) (.tuple (fs.map keepF)) (.tuple (rs ++ [spendD])) = false := by
  have o := g.okF (rs2 := rs) (.inl rfl)
  have p1 : PyData.eqv (.tuple [.int l, .int r]) (.tuple [.int l, .int r]) = true := eqv_small (of_small_tuple (by simp) (by intro x hx; simp at hx; rcases hx with rfl | rfl <;> rfl))
  have p2 : PyData.eqv (.tuple [.int m, .tuple inp]) (.tuple [.int m, .tuple inp]) = true := eqv_small (of_small_tuple (by simp) (by intro x hx; simp at hx; rcases hx with rfl | rfl; rfl; exact o.i.1))
  unfold eqCode
  rw [p1, p2, eqv_small o.f.1, eqv_small o.w.1]
  refine ⟨rfl, ?_⟩
  have e : PyData.eqv (.tuple rs) (.tuple (rs ++ [spendD])) = PyData.eqvAll rs (rs ++ [spendD]) := by rw [PyData.eqv]
  rw [e, eqvAll_more]; rfl
theorem chain_rp {m : Int} (hm : m < 1000) : ∀ {i : Nat} {fs cs : List PyData}, FChain m i fs cs → ∀ f ∈ fs, Rp 297336 4 (keepF f)
  | 0, _, _, ⟨rfl, _⟩, f, hf => by cases hf
  | i + 1, _, _, ⟨fs, cs, h, k, bl, hk, _, h3, hb, rfl, _⟩, f, hf => by
    rcases List.mem_append.mp hf with hf | hf
    · exact chain_rp hm h f hf
    · rw [List.mem_singleton.mp hf]
      have hn : strsOk (abcD.take k) := fun x hx => by
        have h : x ∈ abcD := List.mem_of_mem_take hx
        unfold abcD at h
        simp only [List.mem_cons, List.not_mem_nil, or_false] at h
        rcases h with rfl | rfl | rfl <;> exact ⟨_, rfl, by decide +kernel⟩
      have hc : strsOk cs := (chain_small h).2.2
      show Rp _ _ (.tuple [.str (fname i), .tuple (abcD.take k), .tuple (bl.map tupOf)])
      have b1 : Rp 99111 3 (.tuple (bl.map tupOf)) := rp_tuple (n := 3) (B := 33036) (fun x hx => by
        obtain ⟨b, hb', rfl⟩ := List.mem_map.mp hx
        obtain ⟨rows, rfl, hr, hp⟩ := hb b hb'
        exact rp_tuple (n := 6) (B := 5505) (fun d hd => by
          obtain ⟨l, rfl, h1, h2⟩ := plain_leaf hm hn hc (hp d hd)
          exact rp_tuple (fun x hx => rp_leaf (h2 x hx)) h1) hr) (by rw [List.length_map]; exact h3)
      have b2 : Rp 99111 3 (.tuple (abcD.take k)) := (rp_tuple (n := 3) (fun x hx => by
        obtain ⟨s, rfl, h⟩ := hn x hx
        exact rp_leaf (leaf_s h)) (by rw [List.length_take]; omega)).le (by decide) (by decide)
      have b3 : Rp 99111 3 (.str (fname i)) := (rp_leaf (leaf_s (by rcases fname_or i with q | q <;> rw [q] <;> decide +kernel))).le (by decide) (by decide)
      exact rp_tuple (n := 3) (B := 99111) (fun x hx => by
        simp only [List.mem_cons, List.not_mem_nil, or_false] at hx
        rcases hx with rfl | rfl | rfl <;> assumption) (by simp)
theorem GoodX.shown {m l r : Int} {inp fs cs rs : List PyData} (g : GoodX m l r inp fs cs rs) : (dueD m l r inp fs rs).layable0 = true ∧ (dueD m l r inp fs rs).showable = true ∧ (dueD m l r inp fs rs).intsShort 13 = true := by
  have hl := g.hl
  have hr := g.hr
  have hm := g.hm
  obtain ⟨i, hi, hch⟩ := g.pfs
  have gf := good_funs hi hch
  obtain ⟨s1, _⟩ := g.strs
  obtain ⟨k, hk, hin⟩ := g.pinp
  have ii : ∀ j : Int, j.natAbs < 10 ^ 10 → Rp 1100 0 (.int j) := fun j h => rp_leaf (leaf_i h)
  have rr : ∀ d ∈ rs, Rp 5505 1 d := fun d hd => by
    obtain ⟨xs, rfl, h1, h2, _⟩ := g.row d hd
    exact rp_tuple (fun x hx => rp_leaf (h2 x hx)) h1
  have rR : Rp 126638 2 (.tuple rs) := rp_tuple (n := 23) rr g.prl
  have rI : Rp 2202 1 (.tuple inp) := rp_tuple (n := 2) (fun x hx => by
    obtain ⟨s, rfl, h⟩ := s1 x hx
    exact rp_leaf (leaf_s h)) g.strs.2.2.1
  have rF : Rp 594674 5 (.tuple (fs.map keepF)) := rp_tuple (n := 2) (fun x hx => by
    obtain ⟨d, hd, rfl⟩ := List.mem_map.mp hx
    exact chain_rp (by omega) hch d hd) (by rw [gf.len]; exact hi)
  have all : ∀ x ∈ [PyData.int l, .int r, .int m, .tuple inp, .tuple (fs.map keepF), .tuple rs], Rp 594674 5 x := fun x hx => by
    simp only [List.mem_cons, List.not_mem_nil, or_false] at hx
    rcases hx with rfl | rfl | rfl | rfl | rfl | rfl
    · exact (ii _ (by omega)).le (by decide) (by decide)
    · exact (ii _ (by omega)).le (by decide) (by decide)
    · exact (ii _ (by omega)).le (by decide) (by decide)
    · exact rI.le (by decide) (by decide)
    · exact rF
    · exact rR.le (by decide) (by decide)
  have al := rp_tuple (n := 6) all (by simp)
  refine ⟨?_, al.sh, al.is⟩
  have i1 := (ii l (by omega)).wt
  have i2 := (ii r (by omega)).wt
  have i3 := (ii m (by omega)).wt
  have i4 := rI.wt
  have i5 := rF.wt
  have i6 := rR.wt
  have wt : (dueD m l r inp fs rs).weight ≤ 1048576 := by
    unfold dueD
    rw [PyData.weight]
    simp only [PyData.weightAll]
    omega
  exact Rp.lay (B := 1048576) (k := 6) ⟨al.cl, al.dp, wt, al.sh, al.is⟩ (Nat.le_refl _) (by decide)
/-- Code(k = v, ..), all arguments data -/
theorem sem_makeK {Z : List Addr} {σ : L2.St} {H : Hp} {tas : TA} {l r g i f w : PyData} {C CN CC : Addr} {Q : VK} (o : Occ Z H) (ha : EvA K Z tas σ (hid Z H) [w, f, i, g, r, l]) (Ar : CodeArgs i f w) (ok : codeOk l r g i f w = true) (q : ∀ x H2, Same H H2 → x ∉ Z → InsD K C (hid Z H2) x (codeF l r g (tupD i) (fixD f) (fixD w)) → Q (.ref x) H2) :
    tMakeK C 0 ksCode.length (spCode K C CN CC) kwOrd E0 tNil tas σ H Q := ha H (Same.refl _) o _ fun vs H1 s1 dvs => by
  have nb : codeBad CN CC l r g i f w = none := codeBad_none ok
  cases dvs with | cons d1 t => cases t with | cons d2 t => cases t with | cons d3 t => cases t with | cons d4 t => cases t with | cons d5 t => cases t with | cons d6 t =>
  cases t
  refine ⟨rfl, rfl, fun x dx hx hd hne => ?_⟩
  exact ⟨Z, x, dx, H1, _, _, _, _, _, _, l, r, g, i, f, w, rfl, hx, hd, hne, rfl, o.same s1, d6, d5, d4, .inl d3, d2, d1, Ar.si, Ar.sf, Ar.df, Ar.tri, Ar.sw, Ar.dw, fun _ H' s2 hxZ hI => ⟨rfl, q x H' (s1.trans s2) hxZ hI⟩, fun Cx p e => by rw [nb] at e; cases e⟩
section
variable {Z : List Addr} {σ : L2.St} {G : Hp} {i j : Nat} {x z : Addr} {neg : Bool} {l r g ii ff ww l2 r2 g2 i2 f2 w2 : PyData}
/-- x == y, x != y of two codes -/
theorem own_codes {H : Hp} {Q : VK} (L : LawC P w K mg base C CEr fc fe fdc fde CX) (o : Occ Z H) (h1 : InsD K C (hid Z H) x (codeF l r g ii ff ww)) (k1 : OkF l r g ii ff ww) (h2 : InsD K C (hid Z H) z (codeF l2 r2 g2 i2 f2 w2)) (k2 : OkF l2 r2 g2 i2 f2 w2)
    (q : ∀ H2, Same H H2 → Q (.bl (if neg = true then !eqCode l r g ii ff ww l2 r2 g2 i2 f2 w2 else eqCode l r g ii ff ww l2 r2 g2 i2 f2 w2)) H2) : rOwnEq K C neg (spEqC K C) E (.ref x) (.ref z) H Q := by
  obtain ⟨dx, fs, e, rr⟩ := id h1
  exact ⟨x, dx, fs, .ref C, rfl, hid_sub _ _ e, code_ty L.ck.cls L.ce (h2.same hid_sub), L.nfC, Z, x, _, l, r, g, ii, ff, ww, o, rfl, h1, k1, .inr ⟨z, l2, r2, g2, i2, f2, w2, rfl, h2, k2, fun H' s2 => ⟨_, rfl, q H' s2⟩⟩⟩
theorem an_codes (L : LawC P w K mg base C CEr fc fe fdc fde CX) (hx : σ[i]? = some (some (.ref x))) (hz : σ[j]? = some (some (.ref z))) (h1 : InsD K C G x (codeF l r g ii ff ww)) (k1 : OkF l r g ii ff ww) (h2 : InsD K C G z (codeF l2 r2 g2 i2 f2 w2)) (k2 : OkF l2 r2 g2 i2 f2 w2) :
    An Z (tTest (tOp (rOwnEq K C neg (spEqC K C) E) (tVar i) (tVar j))) σ G (if neg = true then !eqCode l r g ii ff ww l2 r2 g2 i2 f2 w2 else eqCode l r g ii ff ww l2 r2 g2 i2 f2 w2) := fun H1 s1 o Q q =>
  ⟨.ref x, hx, .ref z, hz, own_codes L o (h1.same s1) k1 (h2.same s1) k2 fun H2 s2 => ⟨_, rfl, q H2 s2⟩⟩
theorem an_codeT {ds : List PyData} {v : V} (L : LawC P w K mg base C CEr fc fe fdc fde CX) (hx : σ[i]? = some (some (.ref x))) (hv : σ[j]? = some (some v)) (h1 : InsD K C G x (codeF l r g ii ff ww)) (k1 : OkF l r g ii ff ww) (h2 : Dx K G v (.tuple ds)) :
    An Z (tTest (tOp (rOwnEq K C false (spEqC K C) E) (tVar i) (tVar j))) σ G false := fun H1 s1 o Q q => by
  obtain ⟨dx, fs, e, rr⟩ := id (h1.same s1)
  have d2 := Dx.same s1 _ _ h2
  exact ⟨.ref x, hx, v, hv, x, dx, fs, .type "tuple", rfl, hid_sub _ _ e, (Dx.same hid_sub _ _ d2).ty, L.nfT, Z, x, v, l, r, g, ii, ff, ww, o, rfl, h1.same s1, k1, .inl ⟨ds, d2, fun H' s2 => ⟨false, rfl, _, rfl, q H' s2⟩⟩⟩
end
end
end K81
namespace K81
open PySem PySem.Spec PyProof.Rows L2

section
variable {P : Program} {w : World} {K : PySem.W.Frag} {mg : Str → Option Value} {base : Heap} {C CEr fc fe f : Addr} {fdc fde : FuncData} {CX : Nat → Addr} {cdv : Value} {A : Around} {outer : List Env} {s : Shared} {H0 : Hp} {E : XK} {u : TS}
theorem seg3 (L : LawC P w K mg base C CEr fc fe fdc fde CX) (hgu : A.guards = some []) (hr : Room 26 (A.deeper (envOfC "law" (defScope s_law) s.heap.objs.size f cdv))) (hrest : PSs (LX P w K mg base f cdv A outer s H0 E) (lawB 14) u) :
    ∃ t, PSs (LX P w K mg base f cdv A outer s H0 E) (lawB 11) t ∧ ∀ (D : Ends) (a p : Addr) (m l r : Int) (inp fs cs rs : List PyData) (vf vc vi vr vh vk vd : V) (x : Addr) (v13 : Option V) (Z : List Addr) (H1 : Hp), GoodX m l r inp fs cs rs → p ∈ Z → Occ Z H1 → Dx K (hid Z H1) vf (.list fs) → Dx K (hid Z H1) vi (.list inp) → Dx K (hid Z H1) vr (.list rs) →
      Dx K (hid Z H1) vk (.tuple (fs.map keepF)) → Dx K (hid Z H1) vd (dueD m l r inp fs rs) → InsD K C (hid Z H1) x (codeG m l r inp fs rs) →
      (∀ (x2 : Addr) (H2 : Hp), Same H1 H2 → u D (st1 a p m l r vf vc vi vr ([some vh, some (.ref x), some vk, some vd, v13, some (.ref x2)] ++ List.replicate 9 none)) H2) →
      t D (st1 a p m l r vf vc vi vr ([some vh, some (.ref x), some vk, some vd, v13] ++ List.replicate 10 none)) H1 := by
  have T := L.T
  have nd := sc_law.nd
  have M_Code := L.mkC
  have F_Code := L.fC
  have b_Code := L.bC
  have BK_Code := L.bk
  have g_Code := L.ck.g
  have F_eq := L.fq
  have b_eq := L.bq
  have h_eq := L.hq
  have i_eq := L.iq
  have h_ne := L.hne
  have h_mro := L.ce.hm
  have hu66 : (A.deeper (envOfC "law" (defScope s_law) s.heap.objs.size f cdv)).units + 66 < cLine := by have := hr.un; omega
  refine ⟨_, (pss_cons (ps_if (pt_cmpR op_ne (pe_callB (r := rRepr K) (call_reprD hgu hu66) (by rfl) T.b_repr boot_repr (pa_cons (pe_tup (pa_cons (pe_fldK K rfl (pv 10) rfl) (pa_cons (pe_fldK K rfl (pv 10) rfl) (pa_cons (pe_fldK K rfl (pv 10) rfl) (pa_cons (pe_fldK K rfl (pv 10) rfl) (pa_cons (pe_fldK K rfl (pv 10) rfl) (pa_cons (pe_fldK K rfl (pv 10) rfl) pa_nil))))))) pa_nil)) (pe_callB (r := rRepr K) (call_reprD hgu hu66) (by rfl) T.b_repr boot_repr (pa_cons (pv 12) pa_nil)) (nomark _)) (pss_one (ps_ret pe_bl)) pss_nil)
    (pss_cons (ps_set (i := 14) nd rfl (Or.inl rfl) (pe_makeK0 M_Code F_Code (hr.mono (by decide)) (by rfl) g_Code BK_Code passL (pk_cons (pe_callTy (r := fun xs H Q => ∃ p ys, xs = [.ref p] ∧ ((SqL K H p ys ∧ ∀ l, H l = none → Q (.ref l) (upd H l (.tup ys))) ∨ (SqT K H p ys ∧ Q (.ref p) H))) call_tuple_of (by rfl) T.b_tuple boot_tuple (pa_cons (pv 8) pa_nil)) (pk_cons (pv 11) (pk_cons (pe_callTy (r := fun xs H Q => ∃ p ys, xs = [.ref p] ∧ ((SqL K H p ys ∧ ∀ l, H l = none → Q (.ref l) (upd H l (.tup ys))) ∨ (SqT K H p ys ∧ Q (.ref p) H))) call_tuple_of (by rfl) T.b_tuple boot_tuple (pa_cons (pv 7) pa_nil)) (pk_cons (pv 2) (pk_cons (pv 4) (pk_cons (pv 3) pk_nil))))))))
    (pss_cons (ps_if (PW.pt (pw_or (pt_cmpR (op_ownNe (n := 1) F_eq b_eq pass0 h_eq i_eq h_ne h_mro (hr.mono (by decide))) (pv 14) (pv 10) (nomark _)) (pw_or (pt_cmpR (op_ownEq (n := 1) F_eq b_eq pass0 h_eq i_eq (hr.mono (by decide))) (pv 10) (pv 12) (nomark _)) (pw_or1 (pt_cmpR (op_ownEq (n := 1) F_eq b_eq pass0 h_eq i_eq (hr.mono (by decide))) (pv 10) (pe_make M_Code F_Code (hr.mono (by decide)) (by rfl) g_Code b_Code .nil passL (pa_cons (pv 3) (pa_cons (pv 4) (pa_cons (pv 2) (pa_cons (pv 7) (pa_cons (pv 5) (pa_cons (pe_op op_cat (pv 8) (pe_lst (pa_cons (pe_tup (pa_cons pe_str pa_nil)) pa_nil))) pa_nil))))))) (nomark _)))))) (pss_one (ps_ret pe_bl)) pss_nil)
    hrest))), fun D a p m l r inp fs cs rs vf vc vi vr vh vk vd x v13 Z H1 g hpZ o1 df di dr dk dd hI q => ?_⟩
  obtain ⟨q1, q2, ⟨qf1, qf2, qf3⟩, ⟨qk1, qk2, qk3⟩, _, ⟨qr1, qr2⟩, ⟨qa1, qa2⟩, _⟩ := g.args
  obtain ⟨w1, w2, w3⟩ := g.shown
  have c := L.ck.cls
  have na := L.ck.na
  have efl : ∀ (nm : Str) {d : PyData}, nm ∈ (["least", "rounds", "registers", "inputs", "functions", "rows"] : List Str) → (codeG m l r inp fs rs).lookup nm = some d → Ev K Z (tFld K (tVar 10) nm) (st1 a p m l r vf vc vi vr ([some vh, some (.ref x), some vk, some vd, v13] ++ List.replicate 10 none)) (hid Z H1) d := fun nm d hn hl => ev_fld c (na _ hn) (i := 10) rfl hI hl
  -- repr
  refine an_ifS o1 (b := false) ((an_test (ev_op (ev_repr (ds := [.int l, .int r, .int m, .tuple inp, .tuple (fs.map keepF), .tuple rs]) (ev_tup (eva_cons (efl "least" (by simp) rfl) (eva_cons (efl "rounds" (by simp) rfl) (eva_cons (efl "registers" (by simp) rfl) (eva_cons (efl "inputs" (by simp) rfl) (eva_cons (efl "functions" (by simp) rfl) (eva_cons (efl "rows" (by simp) rfl) eva_nil)))))) (line1000 (by simp))) w1 w2 w3)
    (ev_repr (ds := [.int l, .int r, .int m, .tuple inp, .tuple (fs.map keepF), .tuple rs]) (ev_var (i := 12) rfl dd) w1 w2 w3) rd_neS)).to (by simp)) (fun e => by cases e) fun _ H2 s12 => ?_
  refine nx_of ?_
  replace df := Dx.same (same_hid s12) _ _ df
  replace di := Dx.same (same_hid s12) _ _ di
  replace dr := Dx.same (same_hid s12) _ _ dr
  replace dk := Dx.same (same_hid s12) _ _ dk
  replace dd := Dx.same (same_hid s12) _ _ dd
  replace hI := hI.same (same_hid s12)
  have o2 := o1.same s12
  -- twin
  refine set_cps (sem_makeK (K := K) (Z := Z) o2 (eva_cons (ev_cb (eva_cons (ev_var (i := 8) rfl dr) eva_nil) rc_tupL) (eva_cons (ev_var (i := 11) rfl dk) (eva_cons (ev_cb (eva_cons (ev_var (i := 7) rfl di) eva_nil) rc_tupL) (eva_cons (ev_var (i := 2) rfl (.int m)) (eva_cons (ev_var (i := 4) rfl (.int r)) (eva_cons (ev_var (i := 3) rfl (.int l)) eva_nil)))))) ⟨q2, qk1, qk2, qk3, qr1, qr2⟩
    (g.ok (.inr rfl) g.fixFuns.2 (.inl g.fixRows.2.1)) fun x2 H3 s23 hx2 hI2 => ?_)
  rw [g.fixFuns.2, g.fixRows.2.1] at hI2
  replace hI2 : InsD K C (hid Z H3) x2 (codeG m l r inp fs rs) := hI2
  have k1 := g.okF (rs2 := rs) (.inl rfl)
  have k2 := g.okF (rs2 := rs ++ [spendD]) (.inr rfl)
  have e1 := g.eqs.1
  have e2 := g.eqs.2
  have o3 := o2.same s23
  replace df := Dx.same (same_hid s23) _ _ df
  replace di := Dx.same (same_hid s23) _ _ di
  replace dr := Dx.same (same_hid s23) _ _ dr
  replace dd := Dx.same (same_hid s23) _ _ dd
  replace hI := hI.same (same_hid s23)
  refine an_ifS o3 (b := false) (an_or (b1 := false) (b2 := false) ((an_codes L (neg := true) (i := 14) (j := 10) rfl rfl hI2 k1 hI k1).to (by rw [e1]; rfl)) fun _ => an_or (b1 := false) (b2 := false) (an_codeT L (i := 10) (j := 12) rfl rfl hI k1 dd) fun _ => ?_) (fun e => by cases e) fun _ H4 s34 => nx_of (q x2 H4 (s12.trans (s23.trans s34)))
  intro H4 s34 o4 Q qq
  refine ⟨.ref x, rfl, ?_⟩
  refine sem_make (K := K) (Z := Z) (C := C) (CN := CX 0) (CC := CX 3) o4 (eva_cons (ev_var (i := 3) rfl (.int l)) (eva_cons (ev_var (i := 4) rfl (.int r)) (eva_cons (ev_var (i := 2) rfl (.int m)) (eva_cons (ev_var (i := 7) rfl (Dx.same s34 _ _ di)) (eva_cons (ev_var (i := 5) rfl (Dx.same s34 _ _ df)) (eva_cons (ev_op (ev_var (i := 8) rfl (Dx.same s34 _ _ dr)) (ev_lst (eva_cons (ev_tup (eva_cons ev_str eva_nil) (line1000 (by simp))) eva_nil) (line1000 (by simp))) (rd_cat (by have := g.prl; simp; omega))) eva_nil)))))) ⟨q1, qf1, qf2, qf3, qa1, qa2⟩ (fun _ x5 H5 s45 hx5 hI5 => ?_) fun Cx pt e => ?_
  rotate_left
  · have ok := g.ok (f := .list fs) (w := .list (rs ++ [spendD])) (.inl rfl) g.fixFuns.1 (.inr g.fixRows.2.2.2)
    rw [show PyData.tuple [.str "spend"] = spendD from rfl, codeBad_none ok] at e; cases e
  rw [g.fixFuns.1, show fixD (.list (rs ++ [PyData.tuple [.str "spend"]])) = _ from g.fixRows.2.2.2] at hI5
  replace hI5 : InsD K C (hid Z H5) x5 (codeG m l r inp fs (rs ++ [spendD])) := hI5
  exact own_codes (neg := false) L (o4.same s45) (hI.same (s34.trans (same_hid s45))) k1 hI5 k2 fun H6 s56 => ⟨false, by rw [if_neg (by simp), e2], qq H6 (s45.trans s56)⟩
end
end K81
namespace K81
open PySem PySem.Spec PyProof.Rows L2

/-- what stands at place i of an argument list -/
def ArgAt (K : PySem.W.Frag) (G : Hp) (i : Nat) (v : V) (d : PyData) : Prop := Dq K G v d ∧ (i ≠ 3 → Dx K G v d)
theorem ArgAt.same {K : PySem.W.Frag} {G G' : Hp} {i : Nat} {v : V} {d : PyData} (h : ArgAt K G i v d) (s : Same G G') : ArgAt K G' i v d := ⟨h.1.same s, fun n => Dx.same s _ _ (h.2 n)⟩
theorem ArgAt.of {K : PySem.W.Frag} {G : Hp} {i : Nat} {v : V} {d : PyData} (h : Dx K G v d) : ArgAt K G i v d := ⟨.inl h, fun _ => h⟩
def BadD (m : Int) : Nat → PyData → Prop
  | 0, d => d ∈ bad0
  | 1, d => d ∈ bad1
  | 2, d => d ∈ bad2
  | 3, d => d ∈ bad3
  | 4, d => d ∈ badF4
  | _, d => badRowsR m d ∨ d = .none ∨ d = spendD
/-- six bad arguments -/
def Bads (K : PySem.W.Frag) (G : Hp) (m : Int) (xs : List V) : Prop := xs.length = 6 ∧ ∀ (i : Nat) (v : V), xs[i]? = some v → ∃ d, ArgAt K G i v d ∧ BadD m i d
def EvAq (K : PySem.W.Frag) (Z : List Addr) (ta : TA) (σ : L2.St) (G : Hp) (ds : List PyData) : Prop := ∀ H1, Same G (hid Z H1) → Occ Z H1 → ∀ Q : List V → Hp → Prop,
  (∀ vs H2, Same H1 H2 → vs.length = ds.length → (∀ (i : Nat) (v : V) (d : PyData), vs[i]? = some v → ds[i]? = some d → Dq K (hid Z H2) v d) → Q vs H2) → ta σ H1 Q
section
variable {K : PySem.W.Frag} {Z : List Addr} {σ : L2.St} {G : Hp} {te : TE} {tas : TA} {d : PyData} {ds : List PyData}
theorem evaq_nil : EvAq K Z tNil σ G [] := fun H1 s o Q q => q [] H1 (Same.refl _) rfl fun i v d h => by simp at h
theorem evaq_cons (h : Ev K Z te σ G d) (t : EvAq K Z tas σ G ds) : EvAq K Z (tCons te tas) σ G (d :: ds) := fun H1 s o Q q => h H1 s o _ fun v H2 s2 dv => t H2 (s.trans (same_hid s2)) (o.same s2) _ fun vs H3 s3 hl hv =>
  q (v :: vs) H3 (s2.trans s3) (by rw [List.length_cons, List.length_cons, hl]) fun i v' d' h1 h2 => by
    cases i with
    | zero => cases h1; cases h2; exact .inl (Dx.same (same_hid s3) _ _ dv)
    | succ i => exact hv i v' d' h1 h2
theorem evaq_dict {x : Str} {i : Int} (t : EvAq K Z tas σ G ds) : EvAq K Z (tCons (tDisp [(tC (.str x), tC (.int i))]) tas) σ G (.dict [] :: ds) := fun H1 s o Q q => fun p hp => ⟨upd_same, [(.inr x, .int i)], rfl, by simp, by
  have s2 : Same H1 (upd (upd H1 p (.dK [])) p (.dK (mergeK [] [(.inr x, .int i)]))) := fun b u e => by rw [upd_ne (ne_of_none e hp), upd_ne (ne_of_none e hp)]; exact e
  refine t _ (s.trans (same_hid s2)) (o.same s2) _ fun vs H3 s3 hl hv => q (.ref p :: vs) H3 (s2.trans s3) (by rw [List.length_cons, List.length_cons, hl]) fun i v' d' h1 h2 => ?_
  cases i with
  | zero =>
    cases h1; cases h2
    refine .inr ⟨rfl, p, _, rfl, same_hid s3 _ _ (hid_upd (o.new hp))⟩
  | succ i => exact hv i v' d' h1 h2⟩
/-- pick(pen, [..]) -/
theorem pick_cps {p : Addr} {n i : Nat} {H : Hp} {E : XK} {Q : VK} (hp : p ∈ Z) (hv : σ[i]? = some (some (.ref p))) (h : EvAq K Z tas σ (hid Z H) ds) (o : Occ Z H) (Pp : Pen K p n H) (hne : ds ≠ []) (hl : ds.length ≤ 1000) (hn : n < 1048576)
    (q : ∀ d v H2, d ∈ ds → Dq K (hid Z H2) v d → SB p H H2 → Pen K p (n + 1) H2 → Q v H2) : tCall (spPick K) [] E (tCons (tVar i) (tCons (tLst tas) tNil)) σ H Q := by
  refine ⟨.ref p, hv, h H (Same.refl _) o _ fun vs H4 s34 hlv hvd => ⟨by rw [hlv]; exact line1000 hl, fun c hc => ?_⟩⟩
  have P4 := Pp.same s34
  have s45 : Same H4 (upd H4 c (.lst vs)) := same_upd hc
  have hcp : c ≠ p := fun e => P4.there (e ▸ hc)
  refine ⟨p, c, n, vs, rfl, .inl (.inl (by rw [hid_out fun z => hcp (List.mem_singleton.mp z), upd_same])), fun z => by rw [z] at hlv; exact hne (List.eq_nil_of_length_eq_zero hlv.symm), by omega, hn, P4.same s45, fun v H5 hm s5 P5 => ?_⟩
  obtain ⟨j, hj⟩ := List.getElem?_of_mem hm
  have hjl := (List.getElem?_eq_some_iff.mp hj).1
  rw [hlv] at hjl
  have hd := List.getElem?_eq_getElem hjl
  exact q _ v H5 (List.mem_of_getElem? hd) ((hvd j v _ hj hd).same ((same_hid s45).trans (s5.hid hp))) ((SB.of (s34.trans s45)).trans s5) P5
end
section
variable {P : Program} {w : World} {K : PySem.W.Frag} {mg : Str → Option Value} {base : Heap} {C CEr fc fe f : Addr} {fdc fde : FuncData} {CX : Nat → Addr} {cdv : Value} {A : Around} {outer : List Env} {s : Shared} {H0 : Hp} {E : XK} {u : TS}
def st2 (a p : Addr) (m l r : Int) (vf vc vi vr vh vk vd : V) (x : Addr) (v13 : Option V) (x2 : Addr) (more : List (Option V)) : L2.St := st1 a p m l r vf vc vi vr ([some vh, some (.ref x), some vk, some vd, v13, some (.ref x2)] ++ more)
theorem seg4 (L : LawC P w K mg base C CEr fc fe fdc fde CX) (hr : Room 26 (A.deeper (envOfC "law" (defScope s_law) s.heap.objs.size f cdv))) (hrest : PSs (LX P w K mg base f cdv A outer s H0 E) (lawB 17) u) :
    ∃ t, PSs (LX P w K mg base f cdv A outer s H0 E) (lawB 14) t ∧ ∀ (D : Ends) (a p : Addr) (m l r : Int) (vf vc vi vr vh vk vd : V) (x : Addr) (v13 : Option V) (x2 : Addr) (Z : List Addr) (H1 : Hp), p ∈ Z → Occ Z H1 → Pen K p 1000 H1 →
      (∀ (B : Addr) (xs : List V) (H2 : Hp), SB p H1 H2 → Pen K p 2000 H2 → (hid Z H2) B = some (.lst xs) → Bads K (hid Z H2) m xs → u D (st2 a p m l r vf vc vi vr vh vk vd x v13 x2 (some (.ref B) :: List.replicate 8 none)) H2) →
      t D (st2 a p m l r vf vc vi vr vh vk vd x v13 x2 (List.replicate 9 none)) H1 := by
  have T := L.T
  have nd := sc_law.nd
  have D__law_pick := L.dpick
  have D__law_bad_functions := L.dbadF
  have D__law_bad_rows := L.dbadR
  obtain ⟨f__law_pick, fd__law_pick, g__law_pick, kp__law_pick, b__law_pick, G__law_pick⟩ := D__law_pick
  obtain ⟨f__law_bad_functions, fd__law_bad_functions, g__law_bad_functions, kp__law_bad_functions, b__law_bad_functions, G__law_bad_functions⟩ := D__law_bad_functions
  obtain ⟨f__law_bad_rows, fd__law_bad_rows, g__law_bad_rows, kp__law_bad_rows, b__law_bad_rows, G__law_bad_rows⟩ := D__law_bad_rows

  refine ⟨_, (pss_cons (ps_set (i := 15) nd rfl (Or.inr rfl) (pe_lst (pa_cons (pe_call G__law_pick (hr.mono (by decide)) (by rfl) g__law_pick kp__law_pick b__law_pick .nil pass0 (pa_cons (pv 1) (pa_cons (pe_lst (pa_cons pe_int (pa_cons pe_int (pa_cons pe_bl (pa_cons pe_non (pa_cons pe_str (pa_cons (pe_lst (pa_cons pe_int pa_nil)) pa_nil))))))) pa_nil))) (pa_cons (pe_call G__law_pick (hr.mono (by decide)) (by rfl) g__law_pick kp__law_pick b__law_pick .nil pass0 (pa_cons (pv 1) (pa_cons (pe_lst (pa_cons (pe_un un_neg pe_int) (pa_cons pe_int (pa_cons pe_bl (pa_cons pe_non (pa_cons pe_str pa_nil)))))) pa_nil))) (pa_cons (pe_call G__law_pick (hr.mono (by decide)) (by rfl) g__law_pick kp__law_pick b__law_pick .nil pass0 (pa_cons (pv 1) (pa_cons (pe_lst (pa_cons pe_int (pa_cons pe_int (pa_cons pe_bl (pa_cons pe_non (pa_cons pe_str pa_nil)))))) pa_nil))) pa_nil)))))
    (pss_cons (ps_expr (pe_bm PySem.F.plainAttrs_list PySem.F.slot_list_append PySem.F.type_list_append mt_append (pv 15) (pa_cons (pe_call G__law_pick (hr.mono (by decide)) (by rfl) g__law_pick kp__law_pick b__law_pick .nil pass0 (pa_cons (pv 1) (pa_cons (pe_lst (pa_cons pe_non (pa_cons pe_str (pa_cons (pe_lst (pa_cons pe_str (pa_cons pe_str pa_nil))) (pa_cons (pe_lst (pa_cons pe_str pa_nil)) (pa_cons (pe_lst (pa_cons pe_str pa_nil)) (pa_cons (pe_lst (pa_cons pe_str pa_nil)) (pa_cons (pe_lst (pa_cons pe_int pa_nil)) (pa_cons (pe_lst (pa_cons pe_str (pa_cons pe_str (pa_cons pe_str (pa_cons pe_str (pa_cons pe_str (pa_cons pe_str (pa_cons pe_str pa_nil)))))))) (pa_cons (pe_lst (pa_cons pe_str pa_nil)) (pa_cons (pe_lst (pa_cons pe_str pa_nil)) (pa_cons (pe_disp (pps_cons pe_str pe_int pps_nil) rfl rfl (by simp) (by decide)) pa_nil)))))))))))) pa_nil))) pa_nil)))
    (pss_cons (ps_set (i := 15) nd rfl (Or.inr rfl) (pe_op op_cat (pv 15) (pe_lst (pa_cons (pe_call G__law_bad_functions (hr.mono (by decide)) (by rfl) g__law_bad_functions kp__law_bad_functions b__law_bad_functions .nil pass0 (pa_cons (pv 1) pa_nil)) (pa_cons (pe_call G__law_pick (hr.mono (by decide)) (by rfl) g__law_pick kp__law_pick b__law_pick .nil pass0 (pa_cons (pv 1) (pa_cons (pe_lst (pa_cons (pe_call G__law_bad_rows (hr.mono (by decide)) (by rfl) g__law_bad_rows kp__law_bad_rows b__law_bad_rows .nil pass0 (pa_cons (pv 1) (pa_cons (pv 2) pa_nil))) (pa_cons pe_non (pa_cons (pe_tup (pa_cons pe_str pa_nil)) pa_nil)))) pa_nil))) pa_nil)))))
    hrest))), fun D a p m l r vf vc vi vr vh vk vd x v13 x2 Z H1 hp o1 P1 q => ?_⟩
  refine set_cps ?_
  refine (ia_cons (K := K) (n := 1000) (R1 := fun d => d ∈ bad0) hp (ie_pickK hp rfl (ev_lst (eva_cons ev_int (eva_cons ev_int (eva_cons ev_bl (eva_cons ev_non (eva_cons ev_str (eva_cons (ev_lst (eva_cons ev_int eva_nil) (line1000 (Nat.le_of_ble_eq_true rfl))) eva_nil)))))) (line1000 (Nat.le_of_ble_eq_true rfl))) (by unfold bad0; simp) (by unfold bad0; simp) (by decide)) (ia_cons (R1 := fun d => d ∈ bad1) hp (ie_pickK hp rfl (ev_lst (eva_cons (ev_neg ev_int) (eva_cons ev_int (eva_cons ev_bl (eva_cons ev_non (eva_cons ev_str eva_nil))))) (line1000 (Nat.le_of_ble_eq_true rfl))) (by unfold bad1; simp) (by unfold bad1; simp) (by decide)) (ia_cons (R1 := fun d => d ∈ bad2) hp (ie_pickK hp rfl (ev_lst (eva_cons ev_int (eva_cons ev_int (eva_cons ev_bl (eva_cons ev_non (eva_cons ev_str eva_nil))))) (line1000 (Nat.le_of_ble_eq_true rfl))) (by unfold bad2; simp) (by unfold bad2; simp) (by decide)) ia_nil))) H1 (Same.refl _) o1 P1 _ fun ds vs H2 h s12 P2 dvs => ?_
  obtain ⟨b0, _, rfl, h0, b1, _, rfl, h1, b2, _, rfl, h2, rfl⟩ := h
  obtain ⟨v0, v1, v2, rfl, d0, d1, d2⟩ := all3 dvs
  have o2 := occ_step o1 s12 P2
  refine ⟨by simp [sizeLine_eq], fun B hB => ?_⟩
  have hBZ := o2.new hB
  have hBp : B ≠ p := fun e => hBZ (e ▸ hp)
  have s3 : Same H2 (upd H2 B (.lst [v0, v1, v2])) := same_upd hB
  generalize hH3 : upd H2 B (.lst [v0, v1, v2]) = H3 at s3
  have hB3 : H3 B = some (.lst [v0, v1, v2]) := by rw [← hH3, upd_same]
  have o3 := o2.same s3
  have P3 := P2.same s3
  -- the list is hidden while it grows
  have toB : ∀ {v : V} {d : PyData}, Dx K (hid Z H2) v d → Dx K (hid (B :: Z) H3) v d := fun h => Dx.same (fun b u e => by
    obtain ⟨e1, e2⟩ := hid_some e
    rw [hid_out fun z => (List.mem_cons.mp z).elim (fun z => by rw [z, hB] at e2; cases e2) e1]; exact s3 _ _ e2) _ _ h
  have oB : Occ (B :: Z) H3 := fun z hz => by
    rcases List.mem_cons.mp hz with e | e
    · rw [e, hB3]; simp
    · exact o3 z e
  refine append_cps (K := K) (F := B) (xs := [v0, v1, v2]) (i := 15) rfl hB3 ?_
  refine pick_cps (K := K) (Z := B :: Z) (ds := bad3) (List.mem_cons_of_mem _ hp) rfl (evaq_cons ev_non (evaq_cons ev_str (evaq_cons (ev_lst (eva_cons ev_str (eva_cons ev_str eva_nil)) (line1000 (Nat.le_of_ble_eq_true rfl))) (evaq_cons (ev_lst (eva_cons ev_str eva_nil) (line1000 (Nat.le_of_ble_eq_true rfl))) (evaq_cons (ev_lst (eva_cons ev_str eva_nil) (line1000 (Nat.le_of_ble_eq_true rfl))) (evaq_cons (ev_lst (eva_cons ev_str eva_nil) (line1000 (Nat.le_of_ble_eq_true rfl))) (evaq_cons (ev_lst (eva_cons ev_int eva_nil) (line1000 (Nat.le_of_ble_eq_true rfl))) (evaq_cons (ev_lst (eva_cons ev_str (eva_cons ev_str (eva_cons ev_str (eva_cons ev_str (eva_cons ev_str (eva_cons ev_str (eva_cons ev_str eva_nil))))))) (line1000 (Nat.le_of_ble_eq_true rfl))) (evaq_cons (ev_lst (eva_cons ev_str eva_nil) (line1000 (Nat.le_of_ble_eq_true rfl))) (evaq_cons (ev_lst (eva_cons ev_str eva_nil) (line1000 (Nat.le_of_ble_eq_true rfl))) (evaq_dict (evaq_nil)))))))))))) oB P3 (by unfold bad3; simp) (by unfold bad3; simp) (by decide) fun b3 v3 H5 h3 dq3 s35 P5 => ?_
  have hB5 : H5 B = some (.lst [v0, v1, v2]) := s35.1 _ _ hBp hB3
  refine app_of (xs := [v0, v1, v2]) hB5 (by simp) ?_
  generalize hH6 : upd H5 B (.lst ([v0, v1, v2] ++ [v3])) = H6
  have sBH : Same (hid (B :: Z) H3) (hid Z H6) := fun b u e => by
    obtain ⟨e1, e2⟩ := hid_some e
    rw [hid_out fun z => e1 (List.mem_cons_of_mem _ z), ← hH6, upd_ne fun z => e1 (by rw [z]; exact List.mem_cons_self)]
    exact s35.1 _ _ (fun z => e1 (z ▸ List.mem_cons_of_mem _ hp)) e2
  have sB56 : Same (hid (B :: Z) H5) (hid Z H6) := fun b u e => by
    obtain ⟨e1, e2⟩ := hid_some e
    rw [hid_out fun z => e1 (List.mem_cons_of_mem _ z), ← hH6, upd_ne fun z => e1 (by rw [z]; exact List.mem_cons_self)]; exact e2
  have s16 : SB p H1 H6 := ⟨fun b o nb e => by
      have e2 := s12.1 _ _ nb e
      rw [← hH6, upd_ne (ne_of_none e2 hB)]; exact s35.1 _ _ nb (s3 _ _ e2), fun w a r e => by
      obtain ⟨a', r', e2⟩ := s12.2 w a r e
      obtain ⟨a2, r2, e3⟩ := s35.2 w a' r' (s3 _ _ e2)
      exact ⟨a2, r2, by rw [← hH6, upd_ne hBp.symm]; exact e3⟩⟩
  have P6 : Pen K p 1004 H6 := pen_after P1 s16 (by rw [← hH6, upd_ne hBp.symm]) P5
  have hB6 : H6 B = some (.lst [v0, v1, v2, v3]) := by rw [← hH6, upd_same]; rfl
  have o6 := occ_step o1 s16 P6
  replace d0 := Dx.same sBH _ _ (toB d0)
  replace d1 := Dx.same sBH _ _ (toB d1)
  replace d2 := Dx.same sBH _ _ (toB d2)
  replace dq3 := dq3.same sB56
  clear sBH sB56 toB hB5 s35 P5 P3 o3 oB hB3
  refine nx_of (set_cps ⟨.ref B, rfl, ?_⟩)
  refine (ia_cons (K := K) (n := 1004) (R1 := fun d => d ∈ badF4) hp ((ie_call hp rfl (ia_ev (ds := []) eva_nil) (fun ds e => e) (by decide)).imp fun d h => h.elim fun _ h => h.2)
    (ia_cons (R1 := fun d => badRowsR m d ∨ d = .none ∨ d = spendD) hp ((ie_pick hp rfl (ie_lst hp (ia_cons (R1 := badRowsR m) hp ((ie_call hp rfl (ia_ev (ds := [.int m]) (eva_cons (ev_var (i := 2) rfl (.int m)) eva_nil)) (fun ds e => ⟨m, e⟩) (by decide)).imp fun d h => ?_) (ia_cons hp (ie_ev ev_non) (ia_cons hp (ie_ev (ev_tup (eva_cons ev_str eva_nil) (line1000 (by simp)))) ia_nil))) ?_) ?_ (by decide)).imp fun d h => ?_) ia_nil)) H6 (Same.refl _) o6 P6 _ fun ds vs H7 h s67 P7 dvs => ?_
  · obtain ⟨ds, rfl, h⟩ := h
    exact h
  · rintro _ ⟨_, _, rfl, _, _, _, rfl, _, _, _, rfl, _, rfl⟩; simp
  · rintro _ ⟨_, _, rfl, _, _, _, rfl, _, _, _, rfl, _, rfl⟩; exact ⟨by simp, by simp⟩
  · obtain ⟨_, ⟨x0, _, rfl, hx0, x1, _, rfl, rfl, x2, _, rfl, rfl, rfl⟩, hm⟩ := h
    simp only [List.mem_cons, List.not_mem_nil, or_false] at hm
    rcases hm with rfl | rfl | rfl
    · exact .inl hx0
    · exact .inr (.inl rfl)
    · exact .inr (.inr rfl)
  obtain ⟨b4, _, rfl, h4, b5, _, rfl, h5, rfl⟩ := h
  obtain ⟨v4, v5, rfl, d4, d5⟩ := all2 dvs
  refine ⟨by simp [sizeLine_eq], fun c hc => ?_⟩
  have hB7 : H7 B = some (.lst [v0, v1, v2, v3]) := s67.1 _ _ hBp hB6
  refine ⟨B, c, [v0, v1, v2, v3], [v4, v5], rfl, rfl, by rw [upd_ne (ne_of_none hB7 hc)]; exact hB7, upd_same, by simp [sizeLine_eq], fun B2 hB2 => ?_⟩
  have o7 := occ_step o6 s67 P7
  have s78 : Same H7 (upd (upd H7 c (.lst [v4, v5])) B2 (.lst ([v0, v1, v2, v3] ++ [v4, v5]))) := (same_upd hc).upd hB2
  generalize hH8 : upd (upd H7 c (.lst [v4, v5])) B2 (.lst ([v0, v1, v2, v3] ++ [v4, v5])) = H8 at s78
  have o8 := o7.same s78
  have hB2Z : B2 ∉ Z := (o7.same (same_upd hc)).new hB2
  have s68 : Same (hid Z H6) (hid Z H8) := (s67.hid hp).trans (same_hid s78)
  refine q B2 [v0, v1, v2, v3, v4, v5] H8 (s16.trans (s67.trans (.of s78))) ((P7.same s78).le (by decide)) (by rw [hid_out hB2Z, ← hH8, upd_same]; rfl) ⟨rfl, fun i v hv => ?_⟩
  match i, hv with
  | 0, hv => cases hv; exact ⟨b0, .of (Dx.same s68 _ _ d0), h0⟩
  | 1, hv => cases hv; exact ⟨b1, .of (Dx.same s68 _ _ d1), h1⟩
  | 2, hv => cases hv; exact ⟨b2, .of (Dx.same s68 _ _ d2), h2⟩
  | 3, hv => cases hv; exact ⟨b3, ⟨dq3.same s68, fun n => absurd rfl n⟩, h3⟩
  | 4, hv => cases hv; exact ⟨b4, .of (Dx.same (same_hid s78) _ _ d4), h4⟩
  | 5, hv => cases hv; exact ⟨b5, .of (Dx.same (same_hid s78) _ _ d5), h5⟩
  | i + 6, hv => simp at hv
end
end K81
namespace K81
open PySem PySem.Spec PyProof.Rows L2

/-! plain facts: the first argument that is none -/
def partS : Nat → Str
  | 0 => "least"
  | 1 => "rounds"
  | 2 => "registers"
  | 3 => "inputs"
  | 4 => "functions"
  | _ => "rows"
def clsI (i : Nat) : Nat := if i < 3 then 0 else 3
def goodL (m l r : Int) (inp fs rs : List PyData) : List PyData := [.int l, .int r, .int m, .list inp, .list fs, .list rs]
def EitherD (m l r : Int) (inp fs rs : List PyData) (i : Nat) (d : PyData) : Prop := BadD m i d ∨ (goodL m l r inp fs rs)[i]? = some d
section
variable {m l r : Int} {inp fs cs rs : List PyData} {i f w d : PyData}
theorem GoodX.okInp (g : GoodX m l r inp fs cs rs) (h : EitherD m l r inp fs rs 3 i) : smallQ i := by
  rcases h with h | h
  · exact (bad3_ref h).2
  · cases h; exact g.args.1
theorem GoodX.okFun (g : GoodX m l r inp fs cs rs) (h : EitherD m l r inp fs rs 4 f) : smallD f = true ∧ f.depth ≤ 20 ∧ triHead (fixD f) := by
  rcases h with h | h
  · exact (badF_ref h).2
  · cases h; exact g.args.2.2.1
theorem GoodX.okRow (g : GoodX m l r inp fs cs rs) (h : EitherD m l r inp fs rs 5 w) : smallD w = true ∧ w.depth ≤ 20 := by
  rcases h with h | h
  · rcases (show badRowsR m w ∨ w = .none ∨ w = spendD from h) with h | rfl | rfl
    · exact (badRows_ref g.noh h).2
    · exact ⟨by decide +kernel, by decide +kernel⟩
    · exact ⟨by decide +kernel, by decide +kernel⟩
  · cases h; exact g.args.2.2.2.2.1
theorem badRow_no (g : GoodX m l r inp fs cs rs) (h : BadD m 5 w) : rowsD (fixD w) m (fs.map keepF) true = false := by
  rcases (show badRowsR m w ∨ w = .none ∨ w = spendD from h) with h | rfl | rfl
  · exact (badRows_ref g.noh h).1
  · rfl
  · exact rows_badrow (r := .str "spend") (List.mem_singleton_self _) rfl
theorem GoodX.cargs (g : GoodX m l r inp fs cs rs) (h3 : EitherD m l r inp fs rs 3 i) (h4 : EitherD m l r inp fs rs 4 f) (h5 : EitherD m l r inp fs rs 5 w) : CodeArgs i f w :=
  ⟨g.okInp h3, (g.okFun h4).1, (g.okFun h4).2.1, (g.okFun h4).2.2, (g.okRow h5).1, (g.okRow h5).2⟩
theorem numBad_no {C : Addr} {p : Str} {lo hi : Int} (h : withinD d (.int lo) (.int hi) = false) : numBad C d p lo hi = some (C, p) := by unfold numBad; rw [h]; rfl
theorem numBad_ok {C : Addr} {p : Str} {lo hi : Int} (h : withinD d (.int lo) (.int hi) = true) : numBad C d p lo hi = none := by unfold numBad; rw [h]; rfl
/-- the first argument that is none -/
theorem first_bad (g : GoodX m l r inp fs cs rs) {CX : Nat → Addr} {k : Nat} (hk : k < 6) {d0 d1 d2 d3 d4 d5 : PyData}
    (hg : ∀ j d, j < k → [d0, d1, d2, d3, d4, d5][j]? = some d → (goodL m l r inp fs rs)[j]? = some d) (hb : ∀ d, [d0, d1, d2, d3, d4, d5][k]? = some d → BadD m k d) :
    codeBad (CX 0) (CX 3) d0 d1 d2 d3 d4 d5 = some (CX (clsI k), partS k) := by
  have ok := g.ok (f := .list fs) (w := .list rs) (.inl rfl) g.fixFuns.1 (.inl g.fixRows.2.2.1)
  have nb := codeBad_none (CN := CX 0) (CC := CX 3) ok
  unfold codeBad at nb ⊢
  rw [Option.or_eq_none_iff, Option.or_eq_none_iff, Option.or_eq_none_iff, Option.or_eq_none_iff, Option.or_eq_none_iff] at nb
  obtain ⟨n0, n1, n2, n3, n4, n5⟩ := nb
  have e0 : 0 < k → d0 = .int l := fun h => (Option.some.inj (hg 0 _ h rfl)).symm
  have e1 : 1 < k → d1 = .int r := fun h => (Option.some.inj (hg 1 _ h rfl)).symm
  have e2 : 2 < k → d2 = .int m := fun h => (Option.some.inj (hg 2 _ h rfl)).symm
  have e3 : 3 < k → d3 = .list inp := fun h => (Option.some.inj (hg 3 _ h rfl)).symm
  have e4 : 4 < k → d4 = .list fs := fun h => (Option.some.inj (hg 4 _ h rfl)).symm
  rcases (by omega : k = 0 ∨ k = 1 ∨ k = 2 ∨ k = 3 ∨ k = 4 ∨ k = 5) with rfl | rfl | rfl | rfl | rfl | rfl
  · rw [numBad_no (bad0_ref (hb _ rfl))]; rfl
  · rw [e0 (by decide), n0, numBad_no (bad1_ref (hb _ rfl))]; rfl
  · rw [e0 (by decide), e1 (by decide), n0, n1, numBad_no (bad2_ref (hb _ rfl))]; rfl
  · rw [e0 (by decide), e1 (by decide), e2 (by decide), n0, n1, n2]
    have h := (bad3_ref (hb _ rfl)).1
    have e : inBad (CX 3) d3 = some (CX 3, ("inputs" : Str)) := by unfold inBad; rw [h]; rfl
    rw [e]; rfl
  · rw [e0 (by decide), e1 (by decide), e2 (by decide), e3 (by decide), n0, n1, n2, n3]
    have h := (badF_ref (hb _ rfl)).1 m g.hm.1 g.hm.2
    have e : fnBad (CX 3) d4 (intOf (.int m)) = some (CX 3, ("functions" : Str)) := by unfold fnBad; rw [show intOf (.int m) = m from rfl, h]; rfl
    rw [e]; rfl
  · rw [e0 (by decide), e1 (by decide), e2 (by decide), e3 (by decide), e4 (by decide), n0, n1, n2, n3, n4]
    have h := badRow_no g (hb _ rfl)
    have e : rwBad (CX 3) (.list fs) d5 (intOf (.int m)) = some (CX 3, ("rows" : Str)) := by
      unfold rwBad
      rw [g.fixFuns.1, show intOf (.int m) = m from rfl, show itemsOf (.tuple (fs.map keepF)) = fs.map keepF from rfl, h]; rfl
    rw [e]; rfl
end
end K81
namespace K81
open PySem PySem.Spec PyProof.Rows L2

def strL : List V := [.str "least", .str "rounds", .str "registers", .str "inputs", .str "functions", .str "rows"]
theorem strL_at {k : Nat} (h : k < 6) : strL[k]? = some (.str (partS k)) := by
  rcases (by omega : k = 0 ∨ k = 1 ∨ k = 2 ∨ k = 3 ∨ k = 4 ∨ k = 5) with rfl | rfl | rfl | rfl | rfl | rfl <;> rfl
theorem ArgAt.extN {K : PySem.W.Frag} {G G' : Hp} {i : Nat} {v : V} {d : PyData} (h : ArgAt K G i v d) (e : LamX.ExtN G G') : ArgAt K G' i v d := ⟨h.1.extN e, fun n => Dx.extN e _ _ (h.2 n)⟩
/-- six values that may stand as arguments: the first of them that is none at k -/
def Told (K : PySem.W.Frag) (m l r : Int) (inp fs rs : List PyData) (k : Nat) (G : Hp) (ts : List V) : Prop := ts.length = 6 ∧ ∀ (j : Nat) (v : V), ts[j]? = some v → ∃ d, ArgAt K G j v d ∧ (j < k → (goodL m l r inp fs rs)[j]? = some d) ∧ (j = k → BadD m k d) ∧ EitherD m l r inp fs rs j d
theorem Told.extN {K : PySem.W.Frag} {m l r : Int} {inp fs rs : List PyData} {k : Nat} {G G' : Hp} {ts : List V} (h : Told K m l r inp fs rs k G ts) (e : LamX.ExtN G G') : Told K m l r inp fs rs k G' ts :=
  ⟨h.1, fun j v hj => (h.2 j v hj).elim fun d ⟨a, b⟩ => ⟨d, a.extN e, b⟩⟩
section
variable {P : Program} {w : World} {K : PySem.W.Frag} {mg : Str → Option Value} {base : Heap} {C CEr fc fe f : Addr} {fdc fde : FuncData} {CX : Nat → Addr} {cdv : Value} {A : Around} {outer : List Env} {s : Shared} {H0 : Hp} {E : XK} {u : TS}
/-- Code(told[0], .. told[5]): the exception is told -/
theorem sem_bad {m l r : Int} {inp fs cs rs : List PyData} {k : Nat} {σ : L2.St} {H : Hp} {p T : Addr} {ts : List V} {Q : VK} {i : Nat} (g : GoodX m l r inp fs cs rs) (hk : k < 6) (hσ : σ[i]? = some (some (.ref T))) (hT : H T = some (.lst ts)) (ht : Told K m l r inp fs rs k (hid [p] H) ts) (hp : H p ≠ none)
    (q : ∀ d H2, Same H H2 → H2 d = some (.xd [("part", .str (partS k))]) → E (.ref (CX (clsI k))) (some d) H2) :
    tMake C (spCode K C (CX 0) (CX 3)) [] E (tCons (tOp (rIx K) (tVar i) (tC (.int 0))) (tCons (tOp (rIx K) (tVar i) (tC (.int 1))) (tCons (tOp (rIx K) (tVar i) (tC (.int 2))) (tCons (tOp (rIx K) (tVar i) (tC (.int 3))) (tCons (tOp (rIx K) (tVar i) (tC (.int 4))) (tCons (tOp (rIx K) (tVar i) (tC (.int 5))) tNil)))))) σ H Q := by
  obtain ⟨hl, hj⟩ := ht
  match ts, hl with
  | [t0, t1, t2, t3, t4, t5], _ =>
  have ix : ∀ (j : Nat) (v : V), [t0, t1, t2, t3, t4, t5][j]? = some v → Ve (tOp (rIx K) (tVar i) (tC (.int (j : Int)))) σ H v := fun j v h => ve_ixV (ve_var hσ) hT ve_c h
  refine va_cons (ix 0 _ rfl) (va_cons (ix 1 _ rfl) (va_cons (ix 2 _ rfl) (va_cons (ix 3 _ rfl) (va_cons (ix 4 _ rfl) (va_cons (ix 5 _ rfl) va_nil))))) H (Same.refl _) _ fun H1 s1 x dx hx hd hne => ?_
  obtain ⟨d0, a0, b0, c0, e0⟩ := hj 0 t0 rfl
  obtain ⟨d1, a1, b1, c1, e1⟩ := hj 1 t1 rfl
  obtain ⟨d2, a2, b2, c2, e2⟩ := hj 2 t2 rfl
  obtain ⟨d3, a3, b3, c3, e3⟩ := hj 3 t3 rfl
  obtain ⟨d4, a4, b4, c4, e4⟩ := hj 4 t4 rfl
  obtain ⟨d5, a5, b5, c5, e5⟩ := hj 5 t5 rfl
  have ca := g.cargs e3 e4 e5
  have fb := first_bad g (CX := CX) (d0 := d0) (d1 := d1) (d2 := d2) (d3 := d3) (d4 := d4) (d5 := d5) hk (fun j d h e => by
    match j, e with
    | 0, e => cases e; exact b0 h
    | 1, e => cases e; exact b1 h
    | 2, e => cases e; exact b2 h
    | 3, e => cases e; exact b3 h
    | 4, e => cases e; exact b4 h
    | 5, e => cases e; exact b5 h
    | j + 6, e => simp at e) (fun d e => by
    match k, e with
    | 0, e => cases e; exact c0 rfl
    | 1, e => cases e; exact c1 rfl
    | 2, e => cases e; exact c2 rfl
    | 3, e => cases e; exact c3 rfl
    | 4, e => cases e; exact c4 rfl
    | 5, e => cases e; exact c5 rfl
    | j + 6, e => simp at e)
  have s2 : Same (hid [p] H) (hid [p] H1) := same_hid s1
  refine ⟨[p], x, dx, H1, t0, t1, t2, t3, t4, t5, d0, d1, d2, d3, d4, d5, rfl, hx, hd, hne, rfl, fun z hz => ?_, Dx.same s2 _ _ (a0.2 (by decide)), Dx.same s2 _ _ (a1.2 (by decide)), Dx.same s2 _ _ (a2.2 (by decide)), a3.1.same s2, Dx.same s2 _ _ (a4.2 (by decide)), Dx.same s2 _ _ (a5.2 (by decide)), ca.si, ca.sf, ca.df, ca.tri, ca.sw, ca.dw, fun e => ?_, fun Cx pt e d H' s3 hxd => ?_⟩
  · rw [List.mem_singleton.mp hz]
    cases e : H p with
    | none => exact absurd e hp
    | some o => rw [s1 _ _ e]; simp
  · rw [fb] at e; cases e
  · rw [fb] at e; cases e
    exact q d H' (s1.trans s3) hxd
theorem seg5 (L : LawC P w K mg base C CEr fc fe fdc fde CX) {c PT : Addr} (hcdv : cdv = .ref c) (TB : LamX.TabB base mg c PT) (hr : Room 26 (A.deeper (envOfC "law" (defScope s_law) s.heap.objs.size f cdv))) (hrest : PSs (LX P w K mg base f cdv A outer s H0 E) (lawB 18) u) :
    ∃ t, PSs (LX P w K mg base f cdv A outer s H0 E) (lawB 17) t ∧ ∀ (D : Ends) (a p : Addr) (m l r : Int) (inp fs cs rs : List PyData) (vf vc vi vr vh vk vd : V) (x : Addr) (v13 : Option V) (x2 B : Addr) (xs : List V) (H1 : Hp), GoodX m l r inp fs cs rs → Pen K p 2000 H1 → LamX.Tabs [(PT, qLam)] H1 →
      Dx K (hid [p] H1) vf (.list fs) → Dx K (hid [p] H1) vi (.list inp) → Dx K (hid [p] H1) vr (.list rs) → (hid [p] H1) B = some (.lst xs) → Bads K (hid [p] H1) m xs →
      (∀ (σ : L2.St) (H2 : Hp), σ[1]? = some (some (.ref p)) → σ[2]? = some (some (.int m)) → Pen K p 3000 H2 → u D σ H2) →
      t D (st2 a p m l r vf vc vi vr vh vk vd x v13 x2 (some (.ref B) :: List.replicate 8 none)) H1 := by
  subst hcdv
  have T := L.T
  have nd := sc_law.nd
  have M_Code := L.mkC
  have F_Code := L.fC
  have b_Code := L.bC
  have g_Code := L.ck.g
  have D__law_pick := L.dpick
  obtain ⟨f__law_pick, fd__law_pick, g__law_pick, kp__law_pick, b__law_pick, G__law_pick⟩ := D__law_pick

  obtain ⟨f_heard, fd_heard, g_heard, F_heard, b_heard⟩ := L.hd.ex
  have kp_heard := F_heard.kp
  obtain ⟨oc_h, od_h, kV_h, doc_h, pm_h, an_h, cd_h, ct_h, osl_h, rfl, lk_heard, cd_heard⟩ := F_heard.ex
  have hG : LamX.GivesTo (LX P w K mg base f (.ref c) A outer s H0 E) N__law_heard "_law_heard" (defScope s__law_heard) f_heard cd_h (defBody s__law_heard) "_law_ask" qLam (THeard K CX) := heard_gives rfl rfl rfl T L.er (hr.mono (by decide))
  have hcode : (LX P w K mg base f (.ref c) A outer s H0 E).env.code = .ref c := rfl
  refine ⟨_, (pss_cons (ps_for PassesOwn.never rfl (pi_range1 (by rfl) T.b_range (pa_cons pe_int pa_nil)) (pg_name (i := 16) nd rfl (Or.inl rfl)) (pss_cons (ps_set (i := 17) nd rfl (Or.inr rfl) (pe_op op_cat (pe_slice sl_list (pe_lst (pa_cons (pv 3) (pa_cons (pv 4) (pa_cons (pv 2) (pa_cons (pv 7) (pa_cons (pv 5) (pa_cons (pv 8) pa_nil))))))) po_none (po_some (pv 16))) (pe_lst (pa_cons (pe_ix (r := rIx K) ix_seq (pv 15) (pv 16) (fun _ _ => rfl)) pa_nil))))
    (pss_cons (ps_set (i := 17) nd rfl (Or.inr rfl) (pe_op op_cat (pv 17) (pe_lc (own := [("_law_at", 23)]) rfl nd (pi_range2 (by rfl) T.b_range (pa_cons (pe_op op_add (pv 16) pe_int) (pa_cons pe_int pa_nil))) (blkOk_by (N := N_law) (sc := defScope s_law) (by decide +kernel)) (fun _ _ _ _ _ => (pg_name (i := 23) nd rfl (Or.inl rfl))) (fun _ _ _ _ _ => pts_nil) (fun _ _ _ _ _ => (pe_call G__law_pick (hr.mono (by decide)) (by rfl) g__law_pick kp__law_pick b__law_pick .nil pass0 (pa_cons (pv 1) (pa_cons (pe_lst (pa_cons (pe_ix (r := rIx K) ix_seq (pv 15) (pv 23) (fun _ _ => rfl)) (pa_cons (pe_ix (r := rIx K) ix_seq (pe_lst (pa_cons (pv 3) (pa_cons (pv 4) (pa_cons (pv 2) (pa_cons (pv 7) (pa_cons (pv 5) (pa_cons (pv 8) pa_nil))))))) (pv 23) (fun _ _ => rfl)) pa_nil))) pa_nil)))))))
    (pss_cons (ps_set (i := 18) nd rfl (Or.inl rfl) (pe_ix (r := rIx K) ix_seq (pe_lst (pa_cons pe_str (pa_cons pe_str (pa_cons pe_str (pa_cons pe_str (pa_cons pe_str (pa_cons pe_str pa_nil))))))) (pv 16) (fun _ _ => rfl)))
    (pss_one (ps_if (pt_cmpR (r := rNeD K) (op_neD hr.units) (LamX.pe_lamcall (k := 24) (T := [(PT, qLam)]) (by rfl) g_heard kp_heard lk_heard cd_heard b_heard sc_heard rfl (.inl rfl) hG TB hcode List.mem_cons_self (fun q hq _ => by rw [List.mem_singleton.mp hq]; rfl) hr (LamX.lamS_by (sc := defScope s_law) (by decide +kernel)) rfl (fun _ _ _ _ _ => rfl) (fun A outer s H E f c h => (pe_make M_Code F_Code h (by rfl) g_Code b_Code .nil (passes_call (takes_of rfl rfl rfl rfl) fun _ _ _ _ h => h) (pa_cons (pe_ix (r := rIx K) ix_seq (pv 17) pe_int (fun _ _ => rfl)) (pa_cons (pe_ix (r := rIx K) ix_seq (pv 17) pe_int (fun _ _ => rfl)) (pa_cons (pe_ix (r := rIx K) ix_seq (pv 17) pe_int (fun _ _ => rfl)) (pa_cons (pe_ix (r := rIx K) ix_seq (pv 17) pe_int (fun _ _ => rfl)) (pa_cons (pe_ix (r := rIx K) ix_seq (pv 17) pe_int (fun _ _ => rfl)) (pa_cons (pe_ix (r := rIx K) ix_seq (pv 17) pe_int (fun _ _ => rfl)) pa_nil))))))))) (pe_tup (pa_cons (pe_lst (pa_cons (pe_ifExp (pt_cmpR op_lt (pv 16) pe_int (nomark _)) pe_str pe_str) pa_nil)) (pa_cons (pv 18) pa_nil))) (nomark _)) (pss_one (ps_ret pe_bl)) pss_nil))))))
    hrest), fun D a p m l r inp fs cs rs vf vc vi vr vh vk vd x v13 x2 B xs H1 g P1 t1 df di dr hB hbad q => ?_⟩
  refine seq_for (for_cps ?_)
  refine ⟨(6 : Int), rfl, by decide, by decide, ?_⟩
  have six1 : DxAll K (hid [p] H1) [.int l, .int r, .int m, vi, vf, vr] (goodL m l r inp fs rs) := .cons (.int l) (.cons (.int r) (.cons (.int m) (.cons di (.cons df (.cons dr .nil)))))
  refine for_it (walk_range (lo := 0) (n := 6)) (fun i σ H => ∃ w16 w17 w18, σ = st2 a p m l r vf vc vi vr vh vk vd x v13 x2 (some (.ref B) :: w16 :: w17 :: w18 :: List.replicate 5 none) ∧ LamX.ExtN (hid [p] H1) (hid [p] H) ∧ Pen K p (2000 + 5 * i) H ∧ LamX.Tabs [(PT, qLam)] H) ?_ (fun _ _ _ _ _ => trivial) ?_ ?_
  · exact ⟨none, none, none, rfl, LamX.ExtN.refl _, P1, t1⟩
  · rintro i y σ _ H hlt ⟨w16, w17, w18, rfl, s1, PH, tH⟩ ⟨rfl, rfl⟩
    have hpn : ∀ {H : Hp}, H p ≠ none → Occ [p] H := fun h z hz => by rw [List.mem_singleton.mp hz]; exact h
    have ih : (i : Int) < 6 := by omega
    have hB0 : H B = some (.lst xs) := hid_sub _ _ (s1 _ _ hB fun ps z => by cases z)
    have hbadH : Bads K (hid [p] H) m xs := ⟨hbad.1, fun j v hj => (hbad.2 j v hj).elim fun d ⟨a1, a2⟩ => ⟨d, a1.extN s1, a2⟩⟩
    have six := DxAll.extN s1 _ _ six1
    obtain ⟨xi, hxi⟩ : ∃ v, xs[i]? = some v := ⟨_, List.getElem?_eq_getElem (by rw [hbad.1]; exact hlt)⟩
    have vsix : ∀ {σ : L2.St} {H : Hp}, σ[3]? = some (some (.int l)) → σ[4]? = some (some (.int r)) → σ[2]? = some (some (.int m)) → σ[7]? = some (some vi) → σ[5]? = some (some vf) → σ[8]? = some (some vr) →
        Vl (tLst (tCons (tVar 3) (tCons (tVar 4) (tCons (tVar 2) (tCons (tVar 7) (tCons (tVar 5) (tCons (tVar 8) tNil))))))) σ H [.int l, .int r, .int m, vi, vf, vr] := fun h1 h2 h3 h4 h5 h6 => vl_lst (va_cons (ve_var h1) (va_cons (ve_var h2) (va_cons (ve_var h3) (va_cons (ve_var h4) (va_cons (ve_var h5) (va_cons (ve_var h6) va_nil)))))) (by simp)
    -- told
    refine set_cps (vl_cat (vl_slice (k := i) (vsix rfl rfl rfl rfl rfl rfl) (ve_var (by show some (some (V.int (0 + (i : Int)))) = _; rw [Int.zero_add]))) (vl_lst (va_cons (ve_ixV (i := i) (ve_var rfl) hB0 (ve_var (by show some (some (V.int (0 + (i : Int)))) = _; rw [Int.zero_add])) hxi) va_nil) (by simp)) (by rw [List.length_take]; simp; omega) H (Same.refl _) _ fun c1 Ha sa hn1 hc1 => ?_)
    have mp : p ∈ [p] := List.mem_singleton_self p
    have PHa := PH.same sa
    have hBa : (hid [p] Ha) B = some (.lst xs) := same_hid sa _ _ (by
      have nB : B ∉ [p] := (hid_some hB).1
      rw [hid_out nB]; exact hB0)
    have hbadA : ∀ (j : Nat) (v : V), xs[j]? = some v → ∃ d, ArgAt K (hid [p] Ha) j v d ∧ BadD m j d := fun j v hj => (hbadH.2 j v hj).elim fun d ⟨a1, a2⟩ => ⟨d, a1.same (same_hid sa), a2⟩
    have sixA := DxAll.same (same_hid sa) _ _ six
    have c1p : c1 ≠ p := fun e => PH.there (e ▸ hn1)
    -- told, the rest
    refine set_cps ⟨.ref c1, rfl, ?_⟩
    refine lc_v (K := K) (Z := [p]) (p := p) (n := 2000 + 5 * i) (k := 1) (G := hid [p] Ha) (R := fun j v G => ∃ d, ArgAt K G (i + 1 + j) v d ∧ EitherD m l r inp fs rs (i + 1 + j) d) (items := rngD ((i + 1 : Nat) : Int) (6 - (i + 1))) mp
      ?_ (iw_rngC2 (a := i + 1) (b := 6) (eva_cons ((ev_op (ev_var (i := 16) rfl (.int (0 + (i : Int)))) ev_int (rd_i0 fun _ => .int _)).to (congrArg PyData.int (by omega))) (eva_cons ev_int eva_nil)) (by decide) (by omega)) (by rw [rngD_length]; omega) ?_ Ha (Same.refl _) (hpn PHa.there) PHa _ fun D1 zs Hb hD1 sb Pb hDb hlen hz => ?_
    · rintro j v A B sAB ⟨d, h1, h2⟩
      exact ⟨d, h1.same sAB, h2⟩
    · intro Z' j d G' hp' _ hd sG
      have hj : j < 6 - (i + 1) := by have := (List.getElem?_eq_some_iff.mp hd).1; rwa [rngD_length] at this
      obtain rfl : d = .int (((i + 1 : Nat) : Int) + (j : Nat)) := Option.some.inj (hd.symm.trans (rngD_get hj))
      refine eg_name fun v G4 s4 dv => ⟨rfl, fun Hx sH oH PHx Q qq => ?_⟩
      obtain rfl := dv.int_inv
      have up : Same (hid [p] Ha) (hid Z' Hx) := sG.trans (s4.trans sH)
      have hBx : Hx B = some (.lst xs) := hid_sub _ _ (up _ _ hBa)
      have e23 : some (some (V.int (((i + 1 : Nat) : Int) + (j : Nat)))) = some (some (V.int ((i + 1 + j : Nat) : Int))) := by
        have : ((i + 1 : Nat) : Int) + (j : Nat) = ((i + 1 + j : Nat) : Int) := by omega
        rw [this]
      obtain ⟨xa, hxa⟩ : ∃ v, xs[i + 1 + j]? = some v := ⟨_, List.getElem?_eq_getElem (by rw [hbad.1]; omega)⟩
      obtain ⟨sv, hsv⟩ : ∃ v, [V.int l, .int r, .int m, vi, vf, vr][i + 1 + j]? = some v := ⟨_, List.getElem?_eq_getElem (by show i + 1 + j < 6; omega)⟩
      refine pickV_cps (K := K) (p := p) (vs := [xa, sv]) rfl (vl_lst (va_cons (ve_ixV (i := i + 1 + j) (ve_var rfl) hBx (ve_var e23) hxa) (va_cons (ve_ixN (i := i + 1 + j) (vsix rfl rfl rfl rfl rfl rfl) (ve_var e23) hsv) va_nil)) (by simp)) PHx (by simp) (by simp) (by omega) fun v H2 hv s2 P2 => qq v H2 ?_ s2 (P2.le (by omega))
      have up2 : Same (hid [p] Ha) (hid Z' H2) := up.trans (s2.hid hp')
      simp only [List.mem_cons, List.not_mem_nil, or_false] at hv
      rcases hv with rfl | rfl
      · obtain ⟨d, a1, a2⟩ := hbadA _ _ hxa
        exact ⟨d, a1.same up2, .inl a2⟩
      · obtain ⟨d, a1, a2⟩ := sixA.getV hsv
        exact ⟨d, .of (Dx.same up2 _ _ a2), .inr a1⟩
    have hc1b : Hb c1 = some (.lst (([V.int l, .int r, .int m, vi, vf, vr] : List V).take i ++ [xi])) := sb.1 _ _ c1p hc1
    rw [rngD_length] at hlen Pb
    refine ⟨c1, D1, _, zs, rfl, rfl, hc1b, hDb, by rw [hlen]; simp [sizeLine_eq]; omega, fun c2 hc2 => ?_⟩
    generalize hts : ([V.int l, .int r, .int m, vi, vf, vr] : List V).take i ++ [xi] ++ zs = ts
    have sc : Same Hb (upd Hb c2 (.lst ts)) := same_upd hc2
    have hcc : (upd Hb c2 (.lst ts)) c2 = some (.lst ts) := upd_same
    generalize upd Hb c2 (.lst ts) = Hc at sc hcc
    have upB : Same (hid [p] Ha) (hid [p] Hc) := (sb.hid mp).trans (same_hid sc)
    have ltk : (([V.int l, .int r, .int m, vi, vf, vr] : List V).take i).length = i := by rw [List.length_take]; show min i 6 = i; omega
    have told : Told K m l r inp fs rs i (hid [p] Hc) ts := by
      refine ⟨by rw [← hts, List.length_append, List.length_append, ltk, hlen]; simp; omega, fun j v hj => ?_⟩
      rw [← hts] at hj
      by_cases h1 : j < i
      · rw [List.append_assoc, List.getElem?_append_left (by rw [ltk]; exact h1), List.getElem?_take_of_lt h1] at hj
        obtain ⟨d, a1, a2⟩ := sixA.getV hj
        exact ⟨d, .of (Dx.same upB _ _ a2), fun _ => a1, fun e => by omega, .inr a1⟩
      · by_cases h2 : j = i
        · subst h2
          rw [List.append_assoc, List.getElem?_append_right (by rw [ltk]; omega), ltk, Nat.sub_self] at hj
          cases hj
          obtain ⟨d, a1, a2⟩ := hbadA _ _ hxi
          exact ⟨d, a1.same upB, fun e => by omega, fun _ => a2, .inl a2⟩
        · have l2 : (([V.int l, .int r, .int m, vi, vf, vr] : List V).take i ++ [xi]).length = i + 1 := by rw [List.length_append, ltk]; rfl
          rw [List.getElem?_append_right (by rw [l2]; omega), l2] at hj
          obtain ⟨d, a1, a2⟩ := hz _ _ hj
          rw [show i + 1 + (j - (i + 1)) = j by omega] at a1 a2
          exact ⟨d, a1.same ((hid_less fun b hb => List.mem_cons_of_mem _ hb).trans (same_hid sc)), fun e => by omega, fun e => by omega, a2⟩
    have tc : LamX.Tabs [(PT, qLam)] Hc := (L2.Tabs.sb (tH.ext sa) PHa sb).ext sc
    have eC : LamX.ExtN (hid [p] H) (hid [p] Hc) := extN_same ((same_hid sa).trans upB)
    have Pc := Pb.same sc
    -- part
    refine set_cps (ve_ixN (i := i) (vl_lst (vs := strL) (va_cons ve_c (va_cons ve_c (va_cons ve_c (va_cons ve_c (va_cons ve_c (va_cons ve_c va_nil)))))) (by decide)) (ve_var (by show some (some (V.int (0 + (i : Int)))) = _; rw [Int.zero_add])) (strL_at hlt) Hc (Same.refl _) _ fun Hd sd => ?_)
    -- heard
    refine ⟨tc.ext sd, fun He eN tE => ⟨[], fun Ech Qok h1 h2 => ?_⟩⟩
    have eE : LamX.ExtN (hid [p] Hc) (hid [p] He) := (extN_same (same_hid sd)).trans (extN_hid eN)
    have Pe := (Pc.same sd).extN eN
    refine sem_bad (p := p) g hlt (i := 17) (T := c2) rfl (eN _ _ (sd _ _ hcc) fun ps z => by cases z) (told.extN eE) Pe.there fun d H2 s2 hd => h1 (clsI i) d (partS i) H2 (by unfold clsI; split <;> simp) (by simp) hd Occ.nil fun v H3 s3 dv => ?_
    have sm : smallD (.tuple [.list [.str (wordOf (clsI i))], .str (partS i)]) = true ∧ (PyData.tuple [.list [.str (wordOf (clsI i))], .str (partS i)]).depth ≤ 64 := by
      rcases (by omega : i = 0 ∨ i = 1 ∨ i = 2 ∨ i = 3 ∨ i = 4 ∨ i = 5) with rfl | rfl | rfl | rfl | rfl | rfl <;> exact ⟨by decide +kernel, by decide +kernel⟩
    refine ev_tup (K := K) (Z := []) (ds := [.list [.str (wordOf (clsI i))], .str (partS i)]) (eva_cons (ev_lst (ds := [.str (wordOf (clsI i))]) (eva_cons (ev_if (b := decide ((0 + (i : Int)) < 3)) (an_test (K := K) (ev_op (ev_var (i := 16) rfl (.int (0 + (i : Int)))) ev_int (rd_i0 fun _ => .bl _))) (fun e => ev_str.to ?_) fun e => ev_str.to ?_) eva_nil) (line1000 (by simp))) (eva_cons (ev_var (i := 18) rfl (.str (partS i))) eva_nil)) (line1000 (by simp)) H3 (Same.refl _) Occ.nil _ fun y H4 s4 dy => rd_neD (shaped_small sm.1 sm.2) (shaped_small sm.1 sm.2) [] v y H4 Occ.nil (Dx.same (same_hid s4) _ _ dv) dy _ fun w5 H5 s5 dw => ⟨_, dw.bl_inv, ?_⟩
    · have : i < 3 := by have := of_decide_eq_true e; omega
      unfold clsI; rw [if_pos this]; rfl
    · have : ¬ i < 3 := by have := of_decide_eq_false e; omega
      unfold clsI; rw [if_neg this]; rfl
    rw [eqv_small sm.1]
    refine iteF ?_
    have s25 : Same He H5 := s2.trans (s3.trans (s4.trans s5))
    exact ⟨_, _, _, rfl, s1.trans (eC.trans (eE.trans (extN_same (same_hid s25)))), (Pe.same s25).le (by omega), tE.ext s25⟩
  · rintro σ H ⟨w16, w17, w18, rfl, s1, PH, tH⟩
    exact q _ H rfl rfl (PH.le (by decide))
end
end K81
namespace K81
open PySem PySem.Spec PyProof.Rows L2

section
variable {P : Program} {w : World} {K : PySem.W.Frag} {mg : Str → Option Value} {base : Heap} {C CEr fc fe f : Addr} {fdc fde : FuncData} {CX : Nat → Addr} {cdv : Value} {A : Around} {outer : List Env} {s : Shared} {H0 : Hp} {E : XK} {u : TS}
theorem seg6 (L : LawC P w K mg base C CEr fc fe fdc fde CX) (hr : Room 26 (A.deeper (envOfC "law" (defScope s_law) s.heap.objs.size f cdv))) :
    ∃ t, PSs (LX P w K mg base f cdv A outer s H0 E) (lawB 18) t ∧ ∀ (D : Ends) (σ : L2.St) (H : Hp) (p : Addr) (m : Int), σ[1]? = some (some (.ref p)) → σ[2]? = some (some (.int m)) → 3 ≤ m → m ≤ 16 → (∀ H', D.rt (.bl true) H') → t D σ H := by
  have T := L.T
  have nd := sc_law.nd
  have D__law_let := L.dlet
  obtain ⟨f__law_let, fd__law_let, g__law_let, kp__law_let, b__law_let, G__law_let⟩ := D__law_let

  refine ⟨_, (pss_cons (ps_ret (pe_call G__law_let (hr.mono (by decide)) (by rfl) g__law_let kp__law_let b__law_let .nil passL (pa_cons (pv 1) (pa_cons (pv 2) pa_nil))))
    pss_nil), fun D σ H p m h1 h2 m0 m1 q => ?_⟩
  exact ⟨.ref p, h1, .int m, h2, [], .ref p, m, rfl, m0, m1, Occ.nil, fun H' _ => q H'⟩
/-- the law's body: True -/
theorem law_sem (L : LawC P w K mg base C CEr fc fe fdc fde CX) {c PT : Addr} (hcdv : cdv = .ref c) (TB : LamX.TabB base mg c PT) (hgu : A.guards = some []) (hr : Room 26 (A.deeper (envOfC "law" (defScope s_law) s.heap.objs.size f cdv))) :
    ∃ t, PSs (LX P w K mg base f cdv A outer s H0 E) (defBody s_law) t ∧ ∀ (D : Ends) (H : Hp) (a : Addr) (ns : List Int), SqL K H a (ns.map V.int) → LamX.Tabs [(PT, qLam)] H → (∀ H', D.rt (.bl true) H') → t D (start N_law [.ref a]) H := by
  obtain ⟨t6, p6, h6⟩ := seg6 (outer := outer) (H0 := H0) (E := E) L hr
  obtain ⟨t5, p5, h5⟩ := seg5 L hcdv TB hr p6
  obtain ⟨t4, p4, h4⟩ := seg4 L hr p5
  obtain ⟨t3, p3, h3⟩ := seg3 L hgu hr p4
  obtain ⟨t2, p2, h2⟩ := seg2 L hr p3
  obtain ⟨t1, p1, h1⟩ := seg1 L hr p2
  refine ⟨t1, p1, fun D H a ns hs hT q => h1 D H a ns hs ?_⟩
  intro p m l r inp fs cs rs vf vc vi vr H1 g s1 P1 hp df dc di dr
  refine h2 D a p m l r inp fs cs rs vf vc vi vr H1 g P1 df di dr ?_
  intro Z vh vk vd x v13 H2 hpZ oZ s2 P2 sZ dk dd hI
  refine h3 D a p m l r inp fs cs rs vf vc vi vr vh vk vd x v13 Z H2 g hpZ oZ (Dx.same sZ _ _ df) (Dx.same sZ _ _ di) (Dx.same sZ _ _ dr) dk dd hI ?_
  intro x2 H3 s3
  have mp : p ∈ [p] := List.mem_singleton_self p
  have P3 := P2.same s3
  have s13 : SB p H1 H3 := s2.trans (.of s3)
  refine h4 D a p m l r vf vc vi vr vh vk vd x v13 x2 [p] H3 mp (fun z hz => by rw [List.mem_singleton.mp hz]; exact P3.there) P3 ?_
  intro B xs H4 s4 P4 hB hbad
  have s14 : SB p H1 H4 := s13.trans s4
  have s1' : Same (hid [p] H1) (hid [p] H4) := s14.hid mp
  refine h5 D a p m l r inp fs cs rs vf vc vi vr vh vk vd x v13 x2 B xs H4 g P4 (L2.Tabs.sb (hT.ext s1) P1 s14) (Dx.same s1' _ _ df) (Dx.same s1' _ _ di) (Dx.same s1' _ _ dr) hB hbad ?_
  intro σ H5 e1 e2 P5
  exact h6 D σ H5 p m e1 e2 g.hm.1 g.hm.2 q
end
end K81
set_option maxHeartbeats 0
namespace K81
open PySem PySem.Spec PyProof.Rows L2
abbrev HR : PySem.W.OpenRow := PySem.W.OpenLaw.row PySem.Challenge.rw_leastequal_k81_code_made_and_refused
abbrev Hq : Program := PySem.W.view HR.prog [63]
def hn0 : List PySem.Str := ["EqualError", "BadNumber", "BadInput", "BadProgram", "BadCode", "Misfit", "BadText", "is_integer", "is_within", "need_number", "need_least", "fixed", "SHAPES", "bits_up", "shape_of", "LETTERS", "FIGURES", "TRUTHS", "is_spelling", "is_name"]
def hn1 : List PySem.Str := ["MOST_ROUNDS", "LEAST_REGISTERS", "MOST_REGISTERS", "MOST_CELL", "MOST_INTEGER", "MOST_FUNCTIONS", "MOST_NAMES", "DIGITS", "SPEND", "FORMS", "DEEDS", "are_names", "block_called", "form_of", "is_item", "is_row", "leads_well", "are_rows", "is_function", "are_functions"]
def hn2 : List PySem.Str := ["row_text", "text_of", "Code", "integer_in", "CodeText", "_law_pen", "_law_draw", "_law_pick", "_law_mixed", "_law_plain", "_law_blocks", "_law_deed_rows", "_law_heard", "_law_bad_functions", "_law_bad_rows", "_law_let"]
def hnames : List PySem.Str := hn0 ++ hn1 ++ hn2
def hd_is_integer : He.DefD := ⟨("is_integer", none), "is_integer", "is_integer", defArgs s_is_integer, defBody s_is_integer, defScope s_is_integer, [], []⟩
def hd_is_within : He.DefD := ⟨("is_within", none), "is_within", "is_within", defArgs s_is_within, defBody s_is_within, defScope s_is_within, [], []⟩
def hd_need_number : He.DefD := ⟨("need_number", none), "need_number", "need_number", defArgs s_need_number, defBody s_need_number, defScope s_need_number, [], []⟩
def hd_need_least : He.DefD := ⟨("need_least", none), "need_least", "need_least", defArgs s_need_least, defBody s_need_least, defScope s_need_least, [], []⟩
def hd_fixed : He.DefD := ⟨("fixed", none), "fixed", "fixed", defArgs s_fixed, defBody s_fixed, defScope s_fixed, [], []⟩
def hd_bits_up : He.DefD := ⟨("bits_up", none), "bits_up", "bits_up", defArgs s_bits_up, defBody s_bits_up, defScope s_bits_up, [], []⟩
def hd_shape_of : He.DefD := ⟨("shape_of", none), "shape_of", "shape_of", defArgs s_shape_of, defBody s_shape_of, defScope s_shape_of, [], []⟩
def hd_is_spelling : He.DefD := ⟨("is_spelling", none), "is_spelling", "is_spelling", defArgs s_is_spelling, defBody s_is_spelling, defScope s_is_spelling, [], []⟩
def hd_is_name : He.DefD := ⟨("is_name", none), "is_name", "is_name", defArgs s_is_name, defBody s_is_name, defScope s_is_name, [], []⟩
def hd_are_names : He.DefD := ⟨("are_names", none), "are_names", "are_names", defArgs s_are_names, defBody s_are_names, defScope s_are_names, [], []⟩
def hd_block_called : He.DefD := ⟨("block_called", none), "block_called", "block_called", defArgs s_block_called, defBody s_block_called, defScope s_block_called, [], []⟩
def hd_form_of : He.DefD := ⟨("form_of", none), "form_of", "form_of", defArgs s_form_of, defBody s_form_of, defScope s_form_of, [], []⟩
def hd_is_item : He.DefD := ⟨("is_item", none), "is_item", "is_item", defArgs s_is_item, defBody s_is_item, defScope s_is_item, [], []⟩
def hd_is_row : He.DefD := ⟨("is_row", none), "is_row", "is_row", defArgs s_is_row, defBody s_is_row, defScope s_is_row, [], []⟩
def hd_leads_well : He.DefD := ⟨("leads_well", none), "leads_well", "leads_well", defArgs s_leads_well, defBody s_leads_well, defScope s_leads_well, [], []⟩
def hd_are_rows : He.DefD := ⟨("are_rows", none), "are_rows", "are_rows", defArgs s_are_rows, defBody s_are_rows, defScope s_are_rows, [], []⟩
def hd_is_function : He.DefD := ⟨("is_function", none), "is_function", "is_function", defArgs s_is_function, defBody s_is_function, defScope s_is_function, [], []⟩
def hd_are_functions : He.DefD := ⟨("are_functions", none), "are_functions", "are_functions", defArgs s_are_functions, defBody s_are_functions, defScope s_are_functions, [], []⟩
def hd__law_pen : He.DefD := ⟨("_law_pen", none), "_law_pen", "_law_pen", defArgs s__law_pen, defBody s__law_pen, defScope s__law_pen, [], []⟩
def hd__law_draw : He.DefD := ⟨("_law_draw", none), "_law_draw", "_law_draw", defArgs s__law_draw, defBody s__law_draw, defScope s__law_draw, [], []⟩
def hd__law_pick : He.DefD := ⟨("_law_pick", none), "_law_pick", "_law_pick", defArgs s__law_pick, defBody s__law_pick, defScope s__law_pick, [], []⟩
def hd__law_plain : He.DefD := ⟨("_law_plain", none), "_law_plain", "_law_plain", defArgs s__law_plain, defBody s__law_plain, defScope s__law_plain, [], []⟩
def hd__law_blocks : He.DefD := ⟨("_law_blocks", none), "_law_blocks", "_law_blocks", defArgs s__law_blocks, defBody s__law_blocks, defScope s__law_blocks, [], []⟩
def hd__law_deed_rows : He.DefD := ⟨("_law_deed_rows", none), "_law_deed_rows", "_law_deed_rows", defArgs s__law_deed_rows, defBody s__law_deed_rows, defScope s__law_deed_rows, [], []⟩
def hd__law_heard : He.DefD := ⟨("_law_heard", none), "_law_heard", "_law_heard", defArgs s__law_heard, defBody s__law_heard, defScope s__law_heard, [], []⟩
def hd__law_bad_functions : He.DefD := ⟨("_law_bad_functions", none), "_law_bad_functions", "_law_bad_functions", defArgs s__law_bad_functions, defBody s__law_bad_functions, defScope s__law_bad_functions, [], []⟩
def hd__law_bad_rows : He.DefD := ⟨("_law_bad_rows", none), "_law_bad_rows", "_law_bad_rows", defArgs s__law_bad_rows, defBody s__law_bad_rows, defScope s__law_bad_rows, [], []⟩
def hd__law_let : He.DefD := ⟨("_law_let", none), "_law_let", "_law_let", defArgs s__law_let, defBody s__law_let, defScope s__law_let, [], []⟩
def hd_law : He.DefD := ⟨("law", none), "law", "law", defArgs s_law, defBody s_law, defScope s_law, [], []⟩
def hd_BadNumber___init__ : He.DefD := ⟨("BadNumber", some "__init__"), "__init__", "BadNumber.__init__", defArgs s_BadNumber___init__, defBody s_BadNumber___init__, defScope s_BadNumber___init__, [], []⟩
def hd_BadCode___init__ : He.DefD := ⟨("BadCode", some "__init__"), "__init__", "BadCode.__init__", defArgs s_BadCode___init__, defBody s_BadCode___init__, defScope s_BadCode___init__, [], []⟩
def hd_Code___init__ : He.DefD := ⟨("Code", some "__init__"), "__init__", "Code.__init__", defArgs s_Code___init__, defBody s_Code___init__, defScope s_Code___init__, [], []⟩
def hd_Code___eq__ : He.DefD := ⟨("Code", some "__eq__"), "__eq__", "Code.__eq__", defArgs s_Code___eq__, defBody s_Code___eq__, defScope s_Code___eq__, [], []⟩
def hfn : List He.DefD := [hd_is_integer, hd_is_within, hd_need_number, hd_need_least, hd_fixed, hd_bits_up, hd_shape_of, hd_is_spelling, hd_is_name, hd_are_names, hd_block_called, hd_form_of, hd_is_item, hd_is_row, hd_leads_well, hd_are_rows, hd_is_function, hd_are_functions, hd__law_pen, hd__law_draw, hd__law_pick, hd__law_plain, hd__law_blocks, hd__law_deed_rows, hd__law_heard, hd__law_bad_functions, hd__law_bad_rows, hd__law_let, hd_law, hd_BadNumber___init__, hd_BadCode___init__, hd_Code___init__, hd_Code___eq__]
def hfa : List He.Fa := [.glo "is_integer", .glo "is_within", .glo "need_number", .glo "need_least", .glo "fixed", .glo "bits_up", .glo "shape_of", .glo "is_spelling", .glo "is_name", .glo "are_names", .glo "block_called", .glo "form_of", .glo "is_item", .glo "is_row", .glo "leads_well", .glo "are_rows", .glo "is_function", .glo "are_functions", .glo "_law_pen", .glo "_law_draw", .glo "_law_pick", .glo "_law_plain", .glo "_law_blocks", .glo "_law_deed_rows", .glo "_law_heard", .glo "_law_bad_functions", .glo "_law_bad_rows", .glo "_law_let", .glo "law", .glo "EqualError", .glo "BadNumber", .glo "BadInput", .glo "BadProgram", .glo "BadCode", .glo "Misfit", .glo "BadText", .glo "Code", .free "isinstance", .free "int", .free "bool", .free "str", .free "list", .free "tuple", .free "len", .free "all", .free "any", .free "range", .free "enumerate", .free "zip", .free "abs", .free "repr", .glo "SHAPES", .str "LETTERS" "abcdefghijklmnopqrstuvwxyz", .str "FIGURES" "0123456789", .glo "TRUTHS", .int "MOST_ROUNDS" 1000, .int "LEAST_REGISTERS" 3, .int "MOST_REGISTERS" 16, .int "MOST_CELL" 999, .int "MOST_INTEGER" 2147483647, .int "MOST_FUNCTIONS" 8, .int "MOST_NAMES" 6, .str "DIGITS" "0123456789", .glo "SPEND", .glo "FORMS", .glo "DEEDS", .cls "Code", .mkr "Code", .meth "Code" "__eq__", .meth "BadNumber" "__init__", .meth "BadCode" "__init__", .noat "Code" "least", .noat "Code" "rounds", .noat "Code" "registers", .noat "Code" "inputs", .noat "Code" "functions", .noat "Code" "rows", .exm "BadNumber" "EqualError" true, .exm "BadCode" "EqualError" true]
def hts : List He.Tab := [(fun K => He.ga K "SHAPES", ["add", "sub", "mul", "and", "or", "xor", "neg", "flip", "at", "if", "eq", "lt", "less", "both", "either", "no"]), (fun K => He.ga K "FORMS", ["number", "name", "true", "false", "open", "hand", "store", "load", "spend", "keep", "ask", "tell", "put", "unless", "go"])]
def htf : List He.Defn := [("law", none)]
def exL (K : PySem.W.Frag) : List Bool := [datB K (.tuple [.str "true", .str "false"]) (.ref (He.ga K "TRUTHS")),
  datB K (.tuple [.str "spend"]) (.ref (He.ga K "SPEND")),
  datB K (.tuple [.str "spend", .str "keep", .str "ask", .str "tell", .str "put", .str "unless", .str "go"]) (.ref (He.ga K "DEEDS")),
  tabB K (He.ga K "SHAPES") tab_SHAPES,
  tabB K (He.ga K "FORMS") tab_FORMS,
  oexB K (He.ga K "BadNumber"),
  excB K (He.ga K "BadNumber"),
  xfB K (He.ga K "BadNumber"),
  He.eqO (PySem.W.findIn K (.ref (He.ga K "BadNumber")) "part") (some none),
  decide (PySem.W.typeIn K (.ref (He.ma K (He.ga K "BadNumber") "__init__")) = some (.type "function")),
  decide (PySem.W.kitOne K (.ref (He.ga K "BadNumber")) (.ref (He.ga K "BadNumber")) = some true),
  decide (PySem.W.kitOne K (.ref (He.ga K "BadNumber")) (.ref (He.ga K "BadInput")) = some false),
  decide (PySem.W.kitOne K (.ref (He.ga K "BadNumber")) (.ref (He.ga K "BadProgram")) = some false),
  decide (PySem.W.kitOne K (.ref (He.ga K "BadNumber")) (.ref (He.ga K "BadCode")) = some false),
  decide (PySem.W.kitOne K (.ref (He.ga K "BadNumber")) (.ref (He.ga K "Misfit")) = some false),
  decide (PySem.W.kitOne K (.ref (He.ga K "BadNumber")) (.ref (He.ga K "BadText")) = some false),
  oexB K (He.ga K "BadCode"),
  excB K (He.ga K "BadCode"),
  xfB K (He.ga K "BadCode"),
  He.eqO (PySem.W.findIn K (.ref (He.ga K "BadCode")) "part") (some none),
  decide (PySem.W.typeIn K (.ref (He.ma K (He.ga K "BadCode") "__init__")) = some (.type "function")),
  decide (PySem.W.kitOne K (.ref (He.ga K "BadCode")) (.ref (He.ga K "BadNumber")) = some false),
  decide (PySem.W.kitOne K (.ref (He.ga K "BadCode")) (.ref (He.ga K "BadInput")) = some false),
  decide (PySem.W.kitOne K (.ref (He.ga K "BadCode")) (.ref (He.ga K "BadProgram")) = some false),
  decide (PySem.W.kitOne K (.ref (He.ga K "BadCode")) (.ref (He.ga K "BadCode")) = some true),
  decide (PySem.W.kitOne K (.ref (He.ga K "BadCode")) (.ref (He.ga K "Misfit")) = some false),
  decide (PySem.W.kitOne K (.ref (He.ga K "BadCode")) (.ref (He.ga K "BadText")) = some false),
  decide (PySem.W.kitOne K (.type "tuple") (.ref (He.ga K "Code")) = some false),
  He.eqO (PySem.W.findIn K (.ref (He.ga K "Code")) "__class__") (some (some (.builtin "object.__class__"))),
  He.eqO (PySem.W.specialIn K (.builtin "object.__class__") "__get__") (some (some (.builtin "getset_descriptor.__get__"))),
  decide (PySem.W.takesIn K (.builtin "object.__class__") = some true),
  decide (PySem.W.mroIn K (He.ga K "Code") (.type "object") = some true),
  PySem.W.notFirst K (He.ga K "Code") (.ref (He.ga K "Code")),
  PySem.W.notFirst K (He.ga K "Code") (.type "tuple"),
  He.eqO (PySem.W.findIn K (.ref (He.ga K "Code")) "__ne__") (some (some (.builtin "object.__ne__")))]
def exB (K : PySem.W.Frag) : Bool := (exL K).all id
theorem exB_at {K : PySem.W.Frag} (h : exB K = true) (i : Nat) {b : Bool} (e : (exL K)[i]? = some b) : b = true := List.all_eq_true.mp h b (List.mem_of_getElem? e)
def hhk : PySem.W.Hook := He.hookX 6 hfa hfn hts htf exB
def hob (s : PySem.W.SharedT) : He.AlX := He.obsX 6 hfa hfn hts htf exB (HandSHeadRun.getT s)
theorem hob_eq (s : PySem.W.SharedT) : hob s = hhk.obs s.abs := He.obsX_eq (HandSHeadRun.getT_eq s)
theorem hrunF (w : World) : HandSHeadRun.RunEq HR Hq hhk hob 9000 hnames (w.withFollow "special-get-raises" false) := by
  intro os
  kernel_rfl
theorem hrunT (w : World) : HandSHeadRun.RunEq HR Hq hhk hob 9000 hnames (w.withFollow "special-get-raises" true) := by
  intro os
  kernel_rfl
theorem hrun (w : World) : HandSHeadRun.RunEq HR Hq hhk hob 9000 hnames w := PySem.W.byRow2 "special-get-raises" (P := fun w => HandSHeadRun.RunEq HR Hq hhk hob 9000 hnames w) hrunF hrunT w
end K81
set_option maxHeartbeats 8000000
namespace K81
open PySem PySem.Spec PyProof.Rows L2

theorem law_at {K : PySem.W.Frag} {w : World} {mg : Str → Option Value} {fa : Addr} {h : Heap} (inK : K.In h) (G : h.Ns mainGlobals mg) (hm : mg "law" = some (.ref fa)) (X : He.SaysX hfa hfn hts htf exB w h K) : L2E.LawG PySem.Challenge.rw_leastequal_k81_code_made_and_refused w K 63 mg fa h := by
  have c := X.t.d
  have ex := exB_at X.more
  have g_is_integer := He.glo_ok inK G (c.fact 0 (f := .glo "is_integer") rfl)
  have g_is_within := He.glo_ok inK G (c.fact 1 (f := .glo "is_within") rfl)
  have g_need_number := He.glo_ok inK G (c.fact 2 (f := .glo "need_number") rfl)
  have g_need_least := He.glo_ok inK G (c.fact 3 (f := .glo "need_least") rfl)
  have g_fixed := He.glo_ok inK G (c.fact 4 (f := .glo "fixed") rfl)
  have g_bits_up := He.glo_ok inK G (c.fact 5 (f := .glo "bits_up") rfl)
  have g_shape_of := He.glo_ok inK G (c.fact 6 (f := .glo "shape_of") rfl)
  have g_is_spelling := He.glo_ok inK G (c.fact 7 (f := .glo "is_spelling") rfl)
  have g_is_name := He.glo_ok inK G (c.fact 8 (f := .glo "is_name") rfl)
  have g_are_names := He.glo_ok inK G (c.fact 9 (f := .glo "are_names") rfl)
  have g_block_called := He.glo_ok inK G (c.fact 10 (f := .glo "block_called") rfl)
  have g_form_of := He.glo_ok inK G (c.fact 11 (f := .glo "form_of") rfl)
  have g_is_item := He.glo_ok inK G (c.fact 12 (f := .glo "is_item") rfl)
  have g_is_row := He.glo_ok inK G (c.fact 13 (f := .glo "is_row") rfl)
  have g_leads_well := He.glo_ok inK G (c.fact 14 (f := .glo "leads_well") rfl)
  have g_are_rows := He.glo_ok inK G (c.fact 15 (f := .glo "are_rows") rfl)
  have g_is_function := He.glo_ok inK G (c.fact 16 (f := .glo "is_function") rfl)
  have g_are_functions := He.glo_ok inK G (c.fact 17 (f := .glo "are_functions") rfl)
  have g__law_pen := He.glo_ok inK G (c.fact 18 (f := .glo "_law_pen") rfl)
  have g__law_draw := He.glo_ok inK G (c.fact 19 (f := .glo "_law_draw") rfl)
  have g__law_pick := He.glo_ok inK G (c.fact 20 (f := .glo "_law_pick") rfl)
  have g__law_plain := He.glo_ok inK G (c.fact 21 (f := .glo "_law_plain") rfl)
  have g__law_blocks := He.glo_ok inK G (c.fact 22 (f := .glo "_law_blocks") rfl)
  have g__law_deed_rows := He.glo_ok inK G (c.fact 23 (f := .glo "_law_deed_rows") rfl)
  have g__law_heard := He.glo_ok inK G (c.fact 24 (f := .glo "_law_heard") rfl)
  have g__law_bad_functions := He.glo_ok inK G (c.fact 25 (f := .glo "_law_bad_functions") rfl)
  have g__law_bad_rows := He.glo_ok inK G (c.fact 26 (f := .glo "_law_bad_rows") rfl)
  have g__law_let := He.glo_ok inK G (c.fact 27 (f := .glo "_law_let") rfl)
  have g_law := He.glo_ok inK G (c.fact 28 (f := .glo "law") rfl)
  have g_EqualError := He.glo_ok inK G (c.fact 29 (f := .glo "EqualError") rfl)
  have g_BadNumber := He.glo_ok inK G (c.fact 30 (f := .glo "BadNumber") rfl)
  have g_BadInput := He.glo_ok inK G (c.fact 31 (f := .glo "BadInput") rfl)
  have g_BadProgram := He.glo_ok inK G (c.fact 32 (f := .glo "BadProgram") rfl)
  have g_BadCode := He.glo_ok inK G (c.fact 33 (f := .glo "BadCode") rfl)
  have g_Misfit := He.glo_ok inK G (c.fact 34 (f := .glo "Misfit") rfl)
  have g_BadText := He.glo_ok inK G (c.fact 35 (f := .glo "BadText") rfl)
  have g_Code := He.glo_ok inK G (c.fact 36 (f := .glo "Code") rfl)
  have g_TRUTHS := He.glo_ok inK G (c.fact 54 (f := .glo "TRUTHS") rfl)
  have g_SPEND := He.glo_ok inK G (c.fact 63 (f := .glo "SPEND") rfl)
  have g_DEEDS := He.glo_ok inK G (c.fact 65 (f := .glo "DEEDS") rfl)
  have g_SHAPES := He.glo_ok inK G (c.fact 51 (f := .glo "SHAPES") rfl)
  have g_FORMS := He.glo_ok inK G (c.fact 64 (f := .glo "FORMS") rfl)
  obtain ⟨fd_is_integer, F_is_integer⟩ := c.def_ 0 (d := hd_is_integer) rfl
  have A_is_integer : At K mg "is_integer" s_is_integer ["value"] := at_fun g_is_integer F_is_integer (FunD.bindsN F_is_integer fun _ _ _ _ _ _ us hl => match us, hl with | [_], _ => rfl)
  obtain ⟨fd_is_within, F_is_within⟩ := c.def_ 1 (d := hd_is_within) rfl
  have A_is_within : At K mg "is_within" s_is_within ["value", "least", "most"] := at_fun g_is_within F_is_within (FunD.bindsN F_is_within fun _ _ _ _ _ _ us hl => match us, hl with | [_, _, _], _ => rfl)
  obtain ⟨fd_need_number, F_need_number⟩ := c.def_ 2 (d := hd_need_number) rfl
  have A_need_number : At K mg "need_number" s_need_number ["value", "part", "least", "most"] := at_fun g_need_number F_need_number (FunD.bindsN F_need_number fun _ _ _ _ _ _ us hl => match us, hl with | [_, _, _, _], _ => rfl)
  obtain ⟨fd_need_least, F_need_least⟩ := c.def_ 3 (d := hd_need_least) rfl
  have A_need_least : At K mg "need_least" s_need_least ["value"] := at_fun g_need_least F_need_least (FunD.bindsN F_need_least fun _ _ _ _ _ _ us hl => match us, hl with | [_], _ => rfl)
  obtain ⟨fd_fixed, F_fixed⟩ := c.def_ 4 (d := hd_fixed) rfl
  have A_fixed : At K mg "fixed" s_fixed ["value"] := at_fun g_fixed F_fixed (FunD.bindsN F_fixed fun _ _ _ _ _ _ us hl => match us, hl with | [_], _ => rfl)
  obtain ⟨fd_bits_up, F_bits_up⟩ := c.def_ 5 (d := hd_bits_up) rfl
  have A_bits_up : At K mg "bits_up" s_bits_up ["label"] := at_fun g_bits_up F_bits_up (FunD.bindsN F_bits_up fun _ _ _ _ _ _ us hl => match us, hl with | [_], _ => rfl)
  obtain ⟨fd_shape_of, F_shape_of⟩ := c.def_ 6 (d := hd_shape_of) rfl
  have A_shape_of : At K mg "shape_of" s_shape_of ["label"] := at_fun g_shape_of F_shape_of (FunD.bindsN F_shape_of fun _ _ _ _ _ _ us hl => match us, hl with | [_], _ => rfl)
  obtain ⟨fd_is_spelling, F_is_spelling⟩ := c.def_ 7 (d := hd_is_spelling) rfl
  have A_is_spelling : At K mg "is_spelling" s_is_spelling ["value"] := at_fun g_is_spelling F_is_spelling (FunD.bindsN F_is_spelling fun _ _ _ _ _ _ us hl => match us, hl with | [_], _ => rfl)
  obtain ⟨fd_is_name, F_is_name⟩ := c.def_ 8 (d := hd_is_name) rfl
  have A_is_name : At K mg "is_name" s_is_name ["value"] := at_fun g_is_name F_is_name (FunD.bindsN F_is_name fun _ _ _ _ _ _ us hl => match us, hl with | [_], _ => rfl)
  obtain ⟨fd_are_names, F_are_names⟩ := c.def_ 9 (d := hd_are_names) rfl
  have A_are_names : At K mg "are_names" s_are_names ["value"] := at_fun g_are_names F_are_names (FunD.bindsN F_are_names fun _ _ _ _ _ _ us hl => match us, hl with | [_], _ => rfl)
  obtain ⟨fd_block_called, F_block_called⟩ := c.def_ 10 (d := hd_block_called) rfl
  have A_block_called : At K mg "block_called" s_block_called ["label", "functions"] := at_fun g_block_called F_block_called (FunD.bindsN F_block_called fun _ _ _ _ _ _ us hl => match us, hl with | [_, _], _ => rfl)
  obtain ⟨fd_form_of, F_form_of⟩ := c.def_ 11 (d := hd_form_of) rfl
  have A_form_of : At K mg "form_of" s_form_of ["head", "functions"] := at_fun g_form_of F_form_of (FunD.bindsN F_form_of fun _ _ _ _ _ _ us hl => match us, hl with | [_, _], _ => rfl)
  obtain ⟨fd_is_item, F_is_item⟩ := c.def_ 12 (d := hd_is_item) rfl
  have A_is_item : At K mg "is_item" s_is_item ["sign", "value", "many"] := at_fun g_is_item F_is_item (FunD.bindsN F_is_item fun _ _ _ _ _ _ us hl => match us, hl with | [_, _, _], _ => rfl)
  obtain ⟨fd_is_row, F_is_row⟩ := c.def_ 13 (d := hd_is_row) rfl
  have A_is_row : At K mg "is_row" s_is_row ["row", "many", "functions", "is_deed"] := at_fun g_is_row F_is_row (FunD.bindsN F_is_row fun _ _ _ _ _ _ us hl => match us, hl with | [_, _, _, _], _ => rfl)
  obtain ⟨fd_leads_well, F_leads_well⟩ := c.def_ 14 (d := hd_leads_well) rfl
  have A_leads_well : At K mg "leads_well" s_leads_well ["rows", "at"] := at_fun g_leads_well F_leads_well (FunD.bindsN F_leads_well fun _ _ _ _ _ _ us hl => match us, hl with | [_, _], _ => rfl)
  obtain ⟨fd_are_rows, F_are_rows⟩ := c.def_ 15 (d := hd_are_rows) rfl
  have A_are_rows : At K mg "are_rows" s_are_rows ["rows", "many", "functions", "is_deed"] := at_fun g_are_rows F_are_rows (FunD.bindsN F_are_rows fun _ _ _ _ _ _ us hl => match us, hl with | [_, _, _, _], _ => rfl)
  obtain ⟨fd_is_function, F_is_function⟩ := c.def_ 16 (d := hd_is_function) rfl
  have A_is_function : At K mg "is_function" s_is_function ["value", "many", "functions"] := at_fun g_is_function F_is_function (FunD.bindsN F_is_function fun _ _ _ _ _ _ us hl => match us, hl with | [_, _, _], _ => rfl)
  obtain ⟨fd_are_functions, F_are_functions⟩ := c.def_ 17 (d := hd_are_functions) rfl
  have A_are_functions : At K mg "are_functions" s_are_functions ["value", "many"] := at_fun g_are_functions F_are_functions (FunD.bindsN F_are_functions fun _ _ _ _ _ _ us hl => match us, hl with | [_, _], _ => rfl)
  obtain ⟨fd__law_pen, F__law_pen⟩ := c.def_ 18 (d := hd__law_pen) rfl
  have A__law_pen : At K mg "_law_pen" s__law_pen ["_law_script"] := at_fun g__law_pen F__law_pen (FunD.bindsN F__law_pen fun _ _ _ _ _ _ us hl => match us, hl with | [_], _ => rfl)
  obtain ⟨fd__law_draw, F__law_draw⟩ := c.def_ 19 (d := hd__law_draw) rfl
  have A__law_draw : At K mg "_law_draw" s__law_draw ["_law_pen_here", "_law_many"] := at_fun g__law_draw F__law_draw (FunD.bindsN F__law_draw fun _ _ _ _ _ _ us hl => match us, hl with | [_, _], _ => rfl)
  obtain ⟨fd__law_pick, F__law_pick⟩ := c.def_ 20 (d := hd__law_pick) rfl
  have A__law_pick : At K mg "_law_pick" s__law_pick ["_law_pen_here", "_law_some"] := at_fun g__law_pick F__law_pick (FunD.bindsN F__law_pick fun _ _ _ _ _ _ us hl => match us, hl with | [_, _], _ => rfl)
  obtain ⟨fd__law_plain, F__law_plain⟩ := c.def_ 21 (d := hd__law_plain) rfl
  have A__law_plain : At K mg "_law_plain" s__law_plain ["_law_pen_here", "_law_many", "_law_names", "_law_calls"] := at_fun g__law_plain F__law_plain (FunD.bindsN F__law_plain fun _ _ _ _ _ _ us hl => match us, hl with | [_, _, _, _], _ => rfl)
  obtain ⟨fd__law_blocks, F__law_blocks⟩ := c.def_ 22 (d := hd__law_blocks) rfl
  have A__law_blocks : At K mg "_law_blocks" s__law_blocks ["_law_pen_here", "_law_many"] := at_fun g__law_blocks F__law_blocks (FunD.bindsN F__law_blocks fun _ _ _ _ _ _ us hl => match us, hl with | [_, _], _ => rfl)
  obtain ⟨fd__law_deed_rows, F__law_deed_rows⟩ := c.def_ 23 (d := hd__law_deed_rows) rfl
  have A__law_deed_rows : At K mg "_law_deed_rows" s__law_deed_rows ["_law_pen_here", "_law_many", "_law_names", "_law_calls"] := at_fun g__law_deed_rows F__law_deed_rows (FunD.bindsN F__law_deed_rows fun _ _ _ _ _ _ us hl => match us, hl with | [_, _, _, _], _ => rfl)
  obtain ⟨fd__law_heard, F__law_heard⟩ := c.def_ 24 (d := hd__law_heard) rfl
  have A__law_heard : At K mg "_law_heard" s__law_heard ["_law_ask"] := at_fun g__law_heard F__law_heard (FunD.bindsN F__law_heard fun _ _ _ _ _ _ us hl => match us, hl with | [_], _ => rfl)
  obtain ⟨fd__law_bad_functions, F__law_bad_functions⟩ := c.def_ 25 (d := hd__law_bad_functions) rfl
  have A__law_bad_functions : At K mg "_law_bad_functions" s__law_bad_functions ["_law_pen_here"] := at_fun g__law_bad_functions F__law_bad_functions (FunD.bindsN F__law_bad_functions fun _ _ _ _ _ _ us hl => match us, hl with | [_], _ => rfl)
  obtain ⟨fd__law_bad_rows, F__law_bad_rows⟩ := c.def_ 26 (d := hd__law_bad_rows) rfl
  have A__law_bad_rows : At K mg "_law_bad_rows" s__law_bad_rows ["_law_pen_here", "_law_many"] := at_fun g__law_bad_rows F__law_bad_rows (FunD.bindsN F__law_bad_rows fun _ _ _ _ _ _ us hl => match us, hl with | [_, _], _ => rfl)
  obtain ⟨fd__law_let, F__law_let⟩ := c.def_ 27 (d := hd__law_let) rfl
  have A__law_let : At K mg "_law_let" s__law_let ["_law_pen_here", "_law_many"] := at_fun g__law_let F__law_let (FunD.bindsN F__law_let fun _ _ _ _ _ _ us hl => match us, hl with | [_, _], _ => rfl)
  obtain ⟨fd_law, F_law⟩ := c.def_ 28 (d := hd_law) rfl
  have A_law : At K mg "law" s_law ["_law_script"] := at_fun g_law F_law (FunD.bindsN F_law fun _ _ _ _ _ _ us hl => match us, hl with | [_], _ => rfl)
  obtain ⟨fd_BadNumber___init__, F_BadNumber___init__⟩ := c.def_ 29 (d := hd_BadNumber___init__) rfl
  have B_BadNumber___init__ : Binds K fd_BadNumber___init__ ["self", "part"] [] := FunD.bindsN F_BadNumber___init__ fun _ _ _ _ _ _ us hl => match us, hl with | [_, _], _ => rfl
  obtain ⟨fd_BadCode___init__, F_BadCode___init__⟩ := c.def_ 30 (d := hd_BadCode___init__) rfl
  have B_BadCode___init__ : Binds K fd_BadCode___init__ ["self", "part"] [] := FunD.bindsN F_BadCode___init__ fun _ _ _ _ _ _ us hl => match us, hl with | [_, _], _ => rfl
  obtain ⟨fd_Code___init__, F_Code___init__⟩ := c.def_ 31 (d := hd_Code___init__) rfl
  have B_Code___init__ : Binds K fd_Code___init__ ["self", "least", "rounds", "registers", "inputs", "functions", "rows"] [] := FunD.bindsN F_Code___init__ fun _ _ _ _ _ _ us hl => match us, hl with | [_, _, _, _, _, _, _], _ => rfl
  obtain ⟨fd_Code___eq__, F_Code___eq__⟩ := c.def_ 32 (d := hd_Code___eq__) rfl
  have B_Code___eq__ : Binds K fd_Code___eq__ ["self", "other"] [] := FunD.bindsN F_Code___eq__ fun _ _ _ _ _ _ us hl => match us, hl with | [_, _], _ => rfl
  have T : Tx w K mg := {
    b_isinstance := He.free_ok inK G (c.fact 37 (f := .free "isinstance") rfl)
    b_int := He.free_ok inK G (c.fact 38 (f := .free "int") rfl)
    b_bool := He.free_ok inK G (c.fact 39 (f := .free "bool") rfl)
    b_str := He.free_ok inK G (c.fact 40 (f := .free "str") rfl)
    b_list := He.free_ok inK G (c.fact 41 (f := .free "list") rfl)
    b_tuple := He.free_ok inK G (c.fact 42 (f := .free "tuple") rfl)
    b_len := He.free_ok inK G (c.fact 43 (f := .free "len") rfl)
    b_all := He.free_ok inK G (c.fact 44 (f := .free "all") rfl)
    b_any := He.free_ok inK G (c.fact 45 (f := .free "any") rfl)
    b_range := He.free_ok inK G (c.fact 46 (f := .free "range") rfl)
    b_enumerate := He.free_ok inK G (c.fact 47 (f := .free "enumerate") rfl)
    b_zip := He.free_ok inK G (c.fact 48 (f := .free "zip") rfl)
    b_abs := He.free_ok inK G (c.fact 49 (f := .free "abs") rfl)
    b_repr := He.free_ok inK G (c.fact 50 (f := .free "repr") rfl)
    c_SHAPES := ⟨_, g_SHAPES, tabB_ok (ex 3 rfl) (X.t.tab 0 rfl)⟩
    c_LETTERS := He.str_ok inK G (c.fact 52 (f := .str "LETTERS" "abcdefghijklmnopqrstuvwxyz") rfl)
    c_FIGURES := He.str_ok inK G (c.fact 53 (f := .str "FIGURES" "0123456789") rfl)
    c_TRUTHS := ⟨_, g_TRUTHS, datB_ref (ex 0 rfl)⟩
    c_MOST_ROUNDS := He.int_ok inK G (c.fact 55 (f := .int "MOST_ROUNDS" 1000) rfl)
    c_LEAST_REGISTERS := He.int_ok inK G (c.fact 56 (f := .int "LEAST_REGISTERS" 3) rfl)
    c_MOST_REGISTERS := He.int_ok inK G (c.fact 57 (f := .int "MOST_REGISTERS" 16) rfl)
    c_MOST_CELL := He.int_ok inK G (c.fact 58 (f := .int "MOST_CELL" 999) rfl)
    c_MOST_INTEGER := He.int_ok inK G (c.fact 59 (f := .int "MOST_INTEGER" 2147483647) rfl)
    c_MOST_FUNCTIONS := He.int_ok inK G (c.fact 60 (f := .int "MOST_FUNCTIONS" 8) rfl)
    c_MOST_NAMES := He.int_ok inK G (c.fact 61 (f := .int "MOST_NAMES" 6) rfl)
    c_DIGITS := He.str_ok inK G (c.fact 62 (f := .str "DIGITS" "0123456789") rfl)
    c_SPEND := ⟨_, g_SPEND, datB_ref (ex 1 rfl)⟩
    c_FORMS := ⟨_, g_FORMS, tabB_ok (ex 4 rfl) (X.t.tab 1 rfl)⟩
    c_DEEDS := ⟨_, g_DEEDS, datB_ref (ex 2 rfl)⟩
  }
  have O_BadNumber := oexB_ok (ex 5 rfl)
  have N_BadNumber := He.eqO_ok (ex 8 rfl)
  have M_BadNumber := He.meth_ok (c.fact 69 (f := .meth "BadNumber" "__init__") rfl)
  have O_BadCode := oexB_ok (ex 16 rfl)
  have N_BadCode := He.eqO_ok (ex 19 rfl)
  have M_BadCode := He.meth_ok (c.fact 70 (f := .meth "BadCode" "__init__") rfl)
  have na : ∀ f ∈ (["least", "rounds", "registers", "inputs", "functions", "rows"] : List Str), NoAttr K (He.ga K "Code") f := fun f hf => by
    simp only [List.mem_cons, List.not_mem_nil, or_false] at hf
    rcases hf with rfl | rfl | rfl | rfl | rfl | rfl
    · exact He.noat_ok (c.fact 71 (f := .noat "Code" "least") rfl)
    · exact He.noat_ok (c.fact 72 (f := .noat "Code" "rounds") rfl)
    · exact He.noat_ok (c.fact 73 (f := .noat "Code" "registers") rfl)
    · exact He.noat_ok (c.fact 74 (f := .noat "Code" "inputs") rfl)
    · exact He.noat_ok (c.fact 75 (f := .noat "Code" "functions") rfl)
    · exact He.noat_ok (c.fact 76 (f := .noat "Code" "rows") rfl)
  have CK : CodeK K mg (He.ga K "Code") := ⟨g_Code, He.cls_ok (c.fact 66 (f := .cls "Code") rfl), na⟩
  have CE : CodeE K (He.ga K "Code") := ⟨of_decide_eq_true (ex 27 rfl), He.eqO_ok (ex 28 rfl), He.eqO_ok (ex 29 rfl), of_decide_eq_true (ex 30 rfl), of_decide_eq_true (ex 31 rfl)⟩
  have MK := He.mkr_ok (c.fact 67 (f := .mkr "Code") rfl)
  have ME := He.meth_ok (c.fact 68 (f := .meth "Code" "__eq__") rfl)
  let CX : Nat → Addr := fun i => match i with
    | 0 => He.ga K "BadNumber"
    | 1 => He.ga K "BadInput"
    | 2 => He.ga K "BadProgram"
    | 3 => He.ga K "BadCode"
    | 4 => He.ga K "Misfit"
    | _ => He.ga K "BadText"
  have ER : ErrK K mg (He.ga K "EqualError") CX := {
    gE := g_EqualError
    g0 := g_BadNumber
    g1 := g_BadInput
    g2 := g_BadProgram
    g3 := g_BadCode
    g4 := g_Misfit
    g5 := g_BadText
    ex := fun i hi => by
      rcases hi with rfl | rfl
      · exact He.exm_ok (c.fact 77 (f := .exm "BadNumber" "EqualError" true) rfl)
      · exact He.exm_ok (c.fact 78 (f := .exm "BadCode" "EqualError" true) rfl)
    is_ := fun i hi j hj => by
      rcases hi with rfl | rfl
      · match j, hj with
        | 0, _ => exact of_decide_eq_true (ex 10 rfl)
        | 1, _ => exact of_decide_eq_true (ex 11 rfl)
        | 2, _ => exact of_decide_eq_true (ex 12 rfl)
        | 3, _ => exact of_decide_eq_true (ex 13 rfl)
        | 4, _ => exact of_decide_eq_true (ex 14 rfl)
        | 5, _ => exact of_decide_eq_true (ex 15 rfl)
      · match j, hj with
        | 0, _ => exact of_decide_eq_true (ex 21 rfl)
        | 1, _ => exact of_decide_eq_true (ex 22 rfl)
        | 2, _ => exact of_decide_eq_true (ex 23 rfl)
        | 3, _ => exact of_decide_eq_true (ex 24 rfl)
        | 4, _ => exact of_decide_eq_true (ex 25 rfl)
        | 5, _ => exact of_decide_eq_true (ex 26 rfl)
    exc := fun i hi => by
      rcases hi with rfl | rfl
      · exact excB_ok (ex 6 rfl)
      · exact excB_ok (ex 17 rfl)
    xf := fun i hi => by
      rcases hi with rfl | rfl
      · exact xfB_ok (ex 7 rfl)
      · exact xfB_ok (ex 18 rfl)
    no := fun i hi => by
      rcases hi with rfl | rfl
      · exact N_BadNumber
      · exact N_BadCode
  }
  have hst : ∀ q ∈ [He.cT K ("law", none)], q.2 = (He.cT K ("law", none)).2 ∧ q = He.cT K ("law", none) := fun q hq => by rw [List.mem_singleton.mp hq]; exact ⟨rfl, rfl⟩
  refine ⟨[He.cT K ("law", none)], fun q hq => ?_, fun q hq => ?_, fun q hq => ?_, ?_⟩
  · rw [(hst q hq).2]; exact X.empty _ (List.mem_singleton_self _)
  · rw [(hst q hq).2]; exact X.out _ (List.mem_singleton_self _)
  · rw [(hst q hq).2]; exact PySem.W.codeHd_of_K inK (X.hd _ (List.mem_singleton_self _))
  intro s1 a ns base H hlen hbits inB GB TB e0 hT hS
  have D_is_integer := ok_is_integer (P := PySem.Challenge.pw_leastequal_k81_code_made_and_refused) (w := w) (base := base) A_is_integer T
  have D_is_within := ok_is_within (P := PySem.Challenge.pw_leastequal_k81_code_made_and_refused) (w := w) (base := base) A_is_within T D_is_integer
  have D_fixed := ok_fixed (P := PySem.Challenge.pw_leastequal_k81_code_made_and_refused) (w := w) (base := base) A_fixed T 20
  have D_bits_up := ok_bits_up (P := PySem.Challenge.pw_leastequal_k81_code_made_and_refused) (w := w) (base := base) A_bits_up T
  have D_shape_of := ok_shape_of (P := PySem.Challenge.pw_leastequal_k81_code_made_and_refused) (w := w) (base := base) A_shape_of T D_bits_up
  have D_is_spelling := ok_is_spelling (P := PySem.Challenge.pw_leastequal_k81_code_made_and_refused) (w := w) (base := base) A_is_spelling T
  have D_is_name := ok_is_name (P := PySem.Challenge.pw_leastequal_k81_code_made_and_refused) (w := w) (base := base) A_is_name T D_is_spelling
  have D_are_names := ok_are_names (P := PySem.Challenge.pw_leastequal_k81_code_made_and_refused) (w := w) (base := base) A_are_names T D_is_name
  have D_block_called := ok_block_called (P := PySem.Challenge.pw_leastequal_k81_code_made_and_refused) (w := w) (base := base) A_block_called T
  have D_form_of := ok_form_of (P := PySem.Challenge.pw_leastequal_k81_code_made_and_refused) (w := w) (base := base) A_form_of T D_shape_of D_block_called
  have D_is_item := ok_is_item (P := PySem.Challenge.pw_leastequal_k81_code_made_and_refused) (w := w) (base := base) A_is_item T D_is_name D_is_within
  have D_is_row := ok_is_row (P := PySem.Challenge.pw_leastequal_k81_code_made_and_refused) (w := w) (base := base) A_is_row T D_form_of D_is_item
  have D_leads_well := ok_leads_well (P := PySem.Challenge.pw_leastequal_k81_code_made_and_refused) (w := w) (base := base) A_leads_well T
  have D_are_rows := ok_are_rows (P := PySem.Challenge.pw_leastequal_k81_code_made_and_refused) (w := w) (base := base) A_are_rows T D_is_row D_leads_well
  have D_is_function := ok_is_function (P := PySem.Challenge.pw_leastequal_k81_code_made_and_refused) (w := w) (base := base) A_is_function T D_are_names D_is_name D_are_rows
  have D_are_functions := ok_are_functions (P := PySem.Challenge.pw_leastequal_k81_code_made_and_refused) (w := w) (base := base) A_are_functions T D_is_function
  have E_BadNumber : ExK PySem.Challenge.pw_leastequal_k81_code_made_and_refused w K mg base "BadNumber" (He.ga K "BadNumber") := ⟨g_BadNumber, O_BadNumber, ⟨_, fd_BadNumber___init__, M_BadNumber.at_, of_decide_eq_true (ex 9 rfl), B_BadNumber___init__, ok_BadNumber (fun_of F_BadNumber___init__) O_BadNumber N_BadNumber⟩, N_BadNumber⟩
  have E_BadCode : ExK PySem.Challenge.pw_leastequal_k81_code_made_and_refused w K mg base "BadCode" (He.ga K "BadCode") := ⟨g_BadCode, O_BadCode, ⟨_, fd_BadCode___init__, M_BadCode.at_, of_decide_eq_true (ex 20 rfl), B_BadCode___init__, ok_BadCode (fun_of F_BadCode___init__) O_BadCode N_BadCode⟩, N_BadCode⟩
  have D_need_number := ok_need_number (P := PySem.Challenge.pw_leastequal_k81_code_made_and_refused) (w := w) (base := base) A_need_number T D_is_within E_BadNumber
  have D_need_least := ok_need_least (P := PySem.Challenge.pw_leastequal_k81_code_made_and_refused) (w := w) (base := base) A_need_least T D_need_number
  have FC := ok_Code___init__ (P := PySem.Challenge.pw_leastequal_k81_code_made_and_refused) (w := w) (base := base) (fun_of F_Code___init__) CK T D_need_least D_need_number D_are_names D_are_functions D_fixed D_are_rows E_BadCode
  have FQ := ok_Code___eq__ (P := PySem.Challenge.pw_leastequal_k81_code_made_and_refused) (w := w) (base := base) (fun_of F_Code___eq__) CK CE T
  have D__law_pen := ok_pen (P := PySem.Challenge.pw_leastequal_k81_code_made_and_refused) (w := w) (base := base) A__law_pen T
  have D__law_draw := ok_draw (P := PySem.Challenge.pw_leastequal_k81_code_made_and_refused) (w := w) (base := base) A__law_draw T
  have D__law_pick := ok_pick (P := PySem.Challenge.pw_leastequal_k81_code_made_and_refused) (w := w) (base := base) A__law_pick T D__law_draw
  have D__law_plain := ok_plain (P := PySem.Challenge.pw_leastequal_k81_code_made_and_refused) (w := w) (base := base) A__law_plain T D__law_draw D__law_pick
  have D__law_blocks := ok_blocks (P := PySem.Challenge.pw_leastequal_k81_code_made_and_refused) (w := w) (base := base) A__law_blocks T D__law_draw D__law_pick D__law_plain
  have D__law_deed_rows := ok_deeds (P := PySem.Challenge.pw_leastequal_k81_code_made_and_refused) (w := w) (base := base) A__law_deed_rows T D__law_draw D__law_pick D__law_plain
  have D__law_bad_functions := ok_badF (P := PySem.Challenge.pw_leastequal_k81_code_made_and_refused) (w := w) (base := base) A__law_bad_functions T D__law_pick
  have D__law_bad_rows := ok_badR (P := PySem.Challenge.pw_leastequal_k81_code_made_and_refused) (w := w) (base := base) A__law_bad_rows T D__law_draw D__law_pick
  have D__law_let := ok_let (P := PySem.Challenge.pw_leastequal_k81_code_made_and_refused) (w := w) (base := base) A__law_let T CK MK B_Code___init__ FC
  have BK : KBn K fd_Code___init__ psCode 1 ksCode kwOrd kwOrd := by
    obtain ⟨oc, od, dV, kV, doc, pm, an, cdv, ct, osl, rfl, lk, hcd, hD, hK⟩ := F_Code___init__.ex
    rcases hD with ⟨_, rfl⟩ | ⟨z, _⟩
    · refine ⟨fun s us ws _ hl hl2 => ?_, fun r1 r2 => r1.append r2.reverse⟩
      match us, hl with
      | [x], _ =>
        match ws, hl2 with
        | [w0, w1, w2, w3, w4, w5], _ => exact .of_eq rfl
    · exact absurd rfl z
  have L : LawC PySem.Challenge.pw_leastequal_k81_code_made_and_refused w K mg base (He.ga K "Code") (He.ga K "EqualError") _ _ fd_Code___init__ fd_Code___eq__ CX := {
    T := T, ck := CK, ce := CE, mkC := MK, bC := B_Code___init__, fC := FC, bk := BK, fq := FQ, bq := B_Code___eq__, hq := ME.at_, iq := ME.fn
    hne := He.eqO_ok (ex 34 rfl)
    nfC := (ex 32 rfl)
    nfT := (ex 33 rfl)
    er := ER, hd := A__law_heard, dpen := D__law_pen, ddraw := D__law_draw, dpick := D__law_pick, dblocks := D__law_blocks, ddeeds := D__law_deed_rows, dbadF := D__law_bad_functions, dbadR := D__law_bad_rows, dlet := D__law_let
  }
  have efa : fa = He.fAd K ("law", none) := by
    rw [hm] at g_law; cases g_law; rfl
  obtain ⟨oc, od, dV, kV, doc, pm, an, cdv, ct, osl, e1, lk, hcd, hD, hK⟩ := F_law.ex
  obtain ⟨cc, rfl⟩ := He.codeIn_ref hcd
  have ec : He.codeOf K ("law", none) = cc := He.codeOf_eq lk (by rw [e1])
  have tb := TB _ (List.mem_singleton_self _)
  have ht := hT _ (List.mem_singleton_self _)
  have r27 : Room 27 callerA := ⟨rfl, by decide, by decide⟩
  rw [efa]
  rcases hD with ⟨_, rfl⟩ | ⟨z, _⟩
  · rw [e1] at lk
    refine LamX.run_ofS (CX := C8.CX0) (N := N_law) (ps := ["_law_script"]) (us := [.ref a]) (vs := [.ref a]) lk hcd sc_law r27 e0 ?_ (.cons rfl .nil) rfl fun hr => ?_
    · exact .of_eq rfl
    · obtain ⟨t, ht1, hsem⟩ := law_sem L (f := He.fAd K ("law", none)) (c := cc) (PT := (He.cT K ("law", none)).2) (cdv := .ref cc) (A := callerA) (outer := []) (s := s1) (H0 := H) (E := fun _ _ _ => False) rfl (by rw [← ec]; exact tb) rfl hr
      refine ⟨t, ht1.nox, hsem _ H a ns hS ?_ fun H' => rfl⟩
      intro q hq
      rw [List.mem_singleton.mp hq]
      exact LamX.TabS.nil ht
  · exact absurd rfl z
end K81
open PySem PySem.W PySem.Calls PyProof.Rows
set_option maxRecDepth 100000 in
set_option maxHeartbeats 8000000 in
theorem PySem.Challenge.cw_leastequal_k81_code_made_and_refused_holds : PySem.Challenge.rw_leastequal_k81_code_made_and_refused.Holds := by
  w_on; o_law
  refine HandSHeadRun.head_any (r := OpenLaw.row PySem.Challenge.rw_leastequal_k81_code_made_and_refused) (q := K81.Hq) (H := K81.hhk) (ob := K81.hob) (M := 9000) (loose := K81.hnames) (d := HandSHeadRun.topDef (OpenLaw.row PySem.Challenge.rw_leastequal_k81_code_made_and_refused).prog 63) (kwd := []) K81.hob_eq
    (by kernel_rfl) (fun s => by kernel_rfl) K81.hrun (by kernel_rfl) (by kernel_rfl) (by kernel_rfl) (by rfl) (by first | assumption | decide +kernel) (by decide +kernel) ⟨rfl, rfl, rfl, rfl, rfl, by decide +kernel⟩ ?hw ?hc
  case hw => w_witness2
  case hc =>
    refine L2E.walk_ofG (l := PySem.Challenge.rw_leastequal_k81_code_made_and_refused) (n := 63) rfl (by decide) (by kernel_rfl) ?_
    intro w mg fa h Y G hm
    obtain ⟨K, inK, X⟩ := Y
    have hm2 : mg ("law" : PySem.Str) = some (.ref fa) := by
      have e : (HandSHeadRun.topDef (OpenLaw.row PySem.Challenge.rw_leastequal_k81_code_made_and_refused).prog 63).name = ("law" : PySem.Str) := by kernel_rfl
      rw [← e]
      exact hm
    exact ⟨K, inK, K81.law_at inK G hm2 X⟩
#print axioms PySem.Challenge.cw_leastequal_k81_code_made_and_refused_holds
