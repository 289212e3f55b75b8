import PyProof.Rows.All
import Wide.All
import OpenK.AllK
import Wide.FinOn
import HandS.ForMost
import HandS.Evl
import HandS.Wide
import HandS.IsInst
import HandS.NoneIn
import HandS.Style
import HandS.Replace
import KE.GoesZip
import KE.GoesMore
import KE.GoesEnumKw
import PySem.Challenge.RW_lineage_k01_names_by_sha
set_option Elab.async false
set_option linter.all false
set_option maxRecDepth 100000
/-! My own layer over HandS: callable defs bundled, globals bundled, readings at Nat. -/
namespace My
open PySem PySem.Spec PyProof.Rows L2 Evl

/-- a def that the module's name x holds, with its promise, at level k -/
structure Cal (P : Program) (w : World) (K : PySem.W.Frag) (mg : Str → Option Value) (base : Heap) (k : Nat) (x : Str) (ps : List Str) (sp : Sp) : Prop where
  ex : ∃ f fd, FnOk P w K mg base CX0 k f fd ps sp ∧ Binds K fd ps [] ∧ PySem.W.keepIn K (.ref f) = true ∧ mg x = some (.ref f)
theorem Cal.mono {P : Program} {w : World} {K : PySem.W.Frag} {mg : Str → Option Value} {base : Heap} {j k : Nat} {x : Str} {ps : List Str} {sp : Sp} (C : Cal P w K mg base j x ps sp) (h : j ≤ k) : Cal P w K mg base k x ps sp := by
  obtain ⟨f, fd, F, b, kp, m⟩ := C.ex
  exact ⟨f, fd, F.mono h, b, kp, m⟩
theorem Cal.imp {P : Program} {w : World} {K : PySem.W.Frag} {mg : Str → Option Value} {base : Heap} {k : Nat} {x : Str} {ps : List Str} {sp sp' : Sp} (C : Cal P w K mg base k x ps sp)
    (h : ∀ vs H Q E, sp' vs H Q E → sp vs H Q E) : Cal P w K mg base k x ps sp' := by
  obtain ⟨f, fd, F, b, kp, m⟩ := C.ex
  exact ⟨f, fd, F.imp h, b, kp, m⟩
theorem pe_cal {X : Cx} {k j : Nat} {x : Str} {ps : List Str} {sp : Sp} {e : Expr} {es : List Expr} {t : TA} {p pos : Pos} (C : Cal X.prog X.w X.K X.mg X.base k x ps sp) (hr : Room j X.A) (ha : PA X (e :: es) t) (hle : k ≤ j := by first | exact Nat.le_refl _ | decide | omega) (hg : Gl X x := by rfl)
    (hdb : (x == ("__debug__" : Str)) = false := by decide) (hs : starEach (e :: es) X.env = (false, eval e X.env) :: starEach es X.env := by rfl) (hplain : (backTo pos (starEach es X.env)).any (·.1) = false := by rfl) :
    PE X (.Call (.Name x p) (e :: es) [] pos) (tCall sp [] E0 t) := by
  obtain ⟨f, fd, F, b, kp, m⟩ := C.ex
  exact pe_call F (hr.mono hle) hg m kp b .nil pass0 ha hdb hs hplain
theorem pe_cal0 {X : Cx} {k j : Nat} {x : Str} {ps : List Str} {sp : Sp} {p pos : Pos} (C : Cal X.prog X.w X.K X.mg X.base k x ps sp) (hr : Room j X.A) (hle : k ≤ j := by first | exact Nat.le_refl _ | decide | omega) (hg : Gl X x := by rfl) (hdb : (x == ("__debug__" : Str)) = false := by decide) :
    PE X (.Call (.Name x p) [] [] pos) (tCall sp [] E0 tNil) := by
  obtain ⟨f, fd, F, b, kp, m⟩ := C.ex
  exact pe_call0 F (hr.mono hle) hg m kp b .nil pass0 hdb

/-- globals -/
def GI (mg : Str → Option Value) (x : Str) (n : Int) : Prop := ∃ t, mg x = some (.int n t)
def GS (mg : Str → Option Value) (x : Str) (z : Str) : Prop := ∃ t, mg x = some (.str z t)
/-- a tuple of the module's top -/
def GT (K : PySem.W.Frag) (mg : Str → Option Value) (x : Str) (xs : List V) : Prop := ∃ a, mg x = some (.ref a) ∧ ∀ H, SqT K H a xs
theorem pe_gi {X : Cx} {x : Str} {n : Int} {pos : Pos} (g : GI X.mg x n) (hg : Gl X x := by rfl) (hd : (x == ("__debug__" : Str)) = false := by decide) : PE X (.Name x pos) (tC (.int n)) := by
  obtain ⟨t, m⟩ := g
  exact pe_glob hg m ⟨t, rfl⟩ hd
theorem pe_gs {X : Cx} {x : Str} {z : Str} {pos : Pos} (g : GS X.mg x z) (hg : Gl X x := by rfl) (hd : (x == ("__debug__" : Str)) = false := by decide) : PE X (.Name x pos) (tC (.str z)) := by
  obtain ⟨t, m⟩ := g
  exact pe_glob hg m ⟨t, rfl⟩ hd
def tGT (K : PySem.W.Frag) (xs : List V) : TE := fun _ H Q => ∀ a, (∀ H', SqT K H' a xs) → Q (.ref a) H
theorem pe_gt {X : Cx} {x : Str} {xs : List V} {pos : Pos} (g : GT X.K X.mg x xs) (hg : Gl X x := by rfl) (hd : (x == ("__debug__" : Str)) = false := by decide) : PE X (.Name x pos) (tGT X.K xs) := by
  obtain ⟨a, m, h⟩ := g
  exact ⟨fun pins s σ H Q I q => (pe_glob (v := .ref a) hg m rfl hd).run pins s σ H Q I (q a h)⟩

/-- the built-in names that the program leaves as they are -/
structure Nb (mg : Str → Option Value) : Prop where
  len : mg "len" = none
  list : mg "list" = none
  int : mg "int" = none
  isinstance : mg "isinstance" = none
  range : mg "range" = none
  zip : mg "zip" = none
  all : mg "all" = none
  any : mg "any" = none
  tuple : mg "tuple" = none
  str : mg "str" = none
  dict : mg "dict" = none
  bool : mg "bool" = none
  sorted : mg "sorted" = none
  min : mg "min" = none
  max : mg "max" = none
  set : mg "set" = none
  enumerate : mg "enumerate" = none
  sum : mg "sum" = none

/-! ### promises in two shapes -/
/-- hands back z, all that stood stands -/
def spV (ok : List V → Hp → V → Prop) : Sp := fun vs H Q _ => ∃ z, ok vs H z ∧ ∀ H', Ex H H' → Q z H'
/-- hands back a new list -/
def spL (ok : List V → Hp → List V → Prop) : Sp := fun vs H Q _ => ∃ xs, ok vs H xs ∧ RetL xs H Q
section
variable {σ : L2.St} {H : Hp} {ta : TA} {te : TE} {vs xs : List V} {z v : V}
theorem ev_cal {ok : List V → Hp → V → Prop} (h : EvA ta σ H vs) (hk : ∀ H1, Ex H H1 → ok vs H1 z) : Ev (tCall (spV ok) [] E0 ta) σ H z :=
  ev_call h fun H1 e Q q E => ⟨z, by rw [List.append_nil]; exact hk H1 e, fun H2 e2 => q H2 e2⟩
theorem el_cal {ok : List V → Hp → List V → Prop} (h : EvA ta σ H vs) (hk : ∀ H1, Ex H H1 → ok vs H1 xs) : EvL (tCall (spL ok) [] E0 ta) σ H xs :=
  el_call h fun H1 e Q q E => ⟨xs, by rw [List.append_nil]; exact hk H1 e, fun p H2 hp e2 h2 => q p H2 hp e2 h2⟩
/-- a global tuple -/
theorem ev_gt {K : PySem.W.Frag} {ys : List V} {Q : VK} {H : Hp} (q : ∀ a, (∀ H', SqT K H' a ys) → Q (.ref a) H) : tGT K ys σ H Q := q
/-- natural numbers -/
theorem ev_cn (n : Nat) : Ev (tC (.int (n : Int))) σ H (.int (n : Int)) := ev_c
theorem ev_v {i : Nat} (h : σ[i]? = some (some v)) : Ev (tVar i) σ H v := ev_var h
theorem rv_is {r : R2} {x y z z' : V} {H : Hp} (h : RV r x y H z) (e : z = z') : RV r x y H z' := by
  rw [← e]
  exact h
theorem rv_addN {a b : Nat} : RV (rI0 fun i j => .int (i + j)) (.int (a : Int)) (.int (b : Int)) H (.int ((a + b : Nat) : Int)) := rv_is rv_I0 (congrArg V.int (Int.natCast_add a b).symm)
theorem rv_subN {a b : Nat} (h : b ≤ a) : RV (rI0 fun i j => .int (i - j)) (.int (a : Int)) (.int (b : Int)) H (.int ((a - b : Nat) : Int)) := rv_is rv_I0 (congrArg V.int (Int.ofNat_sub h).symm)
theorem toNatOr (a b : Nat) : Builtin.bitOr (a : Int) (b : Int) = ((a ||| b : Nat) : Int) := Bits.bitOr_pp (Int.natCast_nonneg _) (Int.natCast_nonneg _)
theorem bitAndN (a b : Nat) : Builtin.bitAnd (a : Int) (b : Int) = ((a &&& b : Nat) : Int) := by
  rw [bitAnd_pp (Int.natCast_nonneg _) (Int.natCast_nonneg _), Int.toNat_natCast, Int.toNat_natCast]
theorem bitOrN (a b : Nat) : Builtin.bitOr (a : Int) (b : Int) = ((a ||| b : Nat) : Int) := toNatOr a b
theorem bitXorN (a b : Nat) : Builtin.bitXor (a : Int) (b : Int) = ((a ^^^ b : Nat) : Int) := Bits.bitXor_pp (Int.natCast_nonneg _) (Int.natCast_nonneg _)
theorem rv_andN {a b : Nat} : RV (rI0 fun i j => .int (Builtin.bitAnd i j)) (.int (a : Int)) (.int (b : Int)) H (.int ((a &&& b : Nat) : Int)) := rv_is rv_I0 (congrArg V.int (bitAndN a b))
theorem rv_orN {a b : Nat} : RV (rI0 fun i j => .int (Builtin.bitOr i j)) (.int (a : Int)) (.int (b : Int)) H (.int ((a ||| b : Nat) : Int)) := rv_is rv_I0 (congrArg V.int (bitOrN a b))
theorem rv_xorN {a b : Nat} : RV (rI0 fun i j => .int (Builtin.bitXor i j)) (.int (a : Int)) (.int (b : Int)) H (.int ((a ^^^ b : Nat) : Int)) := rv_is rv_I0 (congrArg V.int (bitXorN a b))
theorem shlN (a b : Nat) : (a : Int) * 2 ^ (b : Int).toNat = ((a <<< b : Nat) : Int) := by
  rw [Int.toNat_natCast, Nat.shiftLeft_eq, Int.natCast_mul, Int.natCast_pow]; rfl
theorem shrN (a b : Nat) : (a : Int) / 2 ^ (b : Int).toNat = ((a >>> b : Nat) : Int) := by
  rw [Int.toNat_natCast, Nat.shiftRight_eq_div_pow, Int.natCast_ediv, Int.natCast_pow]; rfl
theorem rv_shlN {a b : Nat} (ha : a < 2 ^ 64) (hb : b ≤ 1000000) : RV (rI CPow fun i j => .int (i * 2 ^ j.toNat)) (.int (a : Int)) (.int (b : Int)) H (.int ((a <<< b : Nat) : Int)) :=
  rv_is (rv_I ⟨Int.natCast_nonneg _, by omega, by rw [Int.natAbs_natCast]; exact ha⟩) (congrArg V.int (shlN a b))
theorem rv_shrN {a b : Nat} : RV (rI (fun _ j => 0 ≤ j) fun i j => .int (i / 2 ^ j.toNat)) (.int (a : Int)) (.int (b : Int)) H (.int ((a >>> b : Nat) : Int)) :=
  rv_is (rv_I (Int.natCast_nonneg _)) (congrArg V.int (shrN a b))
theorem cmulN {a b : Nat} (h : a < 2 ^ 64 ∨ b < 2 ^ 64) : CMul (a : Int) (b : Int) := by
  unfold CMul
  have t : ((2 : Int) ^ 64) = ((2 ^ 64 : Nat) : Int) := by rfl
  rcases h with h | h
  · left; rw [t]; constructor <;> omega
  · right; rw [t]; constructor <;> omega
theorem rv_mulN {a b : Nat} (h : a < 2 ^ 64 ∨ b < 2 ^ 64) : RV (rI CMul fun i j => .int (i * j)) (.int (a : Int)) (.int (b : Int)) H (.int ((a * b : Nat) : Int)) := rv_is (rv_I (cmulN h)) (congrArg V.int (Int.natCast_mul a b).symm)
theorem rv_modN {a b : Nat} (h : 0 < b) : RV (rI (fun _ j => 0 < j) fun i j => .int (i % j)) (.int (a : Int)) (.int (b : Int)) H (.int ((a % b : Nat) : Int)) := rv_is (rv_I (show (0:Int) < (b:Int) by omega)) (congrArg V.int (Int.natCast_emod a b).symm)
theorem rv_divN {a b : Nat} (h : 0 < b) (hb : b < 1073741824) : RV (rI CDiv fun i j => .int (i / j)) (.int (a : Int)) (.int (b : Int)) H (.int ((a / b : Nat) : Int)) := rv_is (rv_I ⟨by omega, by omega⟩) (congrArg V.int (Int.natCast_ediv a b).symm)
theorem rv_divWN {a b n : Nat} (h : 0 < b) (hb : b < 2 ^ n) (h0 : 0 < n) (h9 : n ≤ 9000) : RV (rI CDivW fun i j => .int (i / j)) (.int (a : Int)) (.int (b : Int)) H (.int ((a / b : Nat) : Int)) :=
  rv_is (rv_I (wide_div (by omega) (by rw [Int.natAbs_natCast]; exact hb) h0 h9)) (congrArg V.int (Int.natCast_ediv a b).symm)
theorem rv_mulWN {a b n m : Nat} (ha : a < 2 ^ n) (hb : b < 2 ^ m) (h0 : 0 < n) (h1 : 0 < m) (h : n + m ≤ 1000000) : RV (rI CMulW fun i j => .int (i * j)) (.int (a : Int)) (.int (b : Int)) H (.int ((a * b : Nat) : Int)) :=
  rv_is (rv_I (wide_mul (by rw [Int.natAbs_natCast]; exact ha) (by rw [Int.natAbs_natCast]; exact hb) h0 h1 h)) (congrArg V.int (Int.natCast_mul a b).symm)
/-- an item of a list that is known -/
theorem rv_ixLn {K : PySem.W.Frag} {p : Addr} {xs : List V} {i : Nat} (h : SqL K H p xs) (ha : xs[i]? = some v) : RV (rIxL K) (.ref p) (.int (i : Int)) H v := rv_ixL h (atI_nat ha)
theorem rv_ixTn {K : PySem.W.Frag} {p : Addr} {xs : List V} {i : Nat} (h : SqT K H p xs) (ha : xs[i]? = some v) : RV (rIxT K) (.ref p) (.int (i : Int)) H v := rv_ixT h (atI_nat ha)
end
/-- int(x) of an int -/
theorem ev_int {σ : L2.St} {H : Hp} {te : TE} {i : Int} (h : Ev te σ H (.int i)) : Ev (tCB (fun xs H Q => (∃ i, xs = [.int i] ∧ Q (.int i) H) ∨ ∃ k, xs = [.bl k] ∧ Q (.int (if k then 1 else 0)) H) (tCons te tNil)) σ H (.int i) := fun H1 e Q q =>
  h H1 e _ fun H2 e2 => .inl ⟨i, rfl, q H2 e2⟩

/-! ### evaluating to something of which P is known (P stays as the heap grows) -/
def EvP (te : TE) (σ : L2.St) (H : Hp) (P : V → Hp → Prop) : Prop := ∀ H1, Ex H H1 → ∀ Q : VK, (∀ v H2, Ex H1 H2 → P v H2 → Q v H2) → te σ H1 Q
def EvAP (ta : TA) (σ : L2.St) (H : Hp) (P : List V → Hp → Prop) : Prop := ∀ H1, Ex H H1 → ∀ Q : List V → Hp → Prop, (∀ vs H2, Ex H1 H2 → P vs H2 → Q vs H2) → ta σ H1 Q
section
variable {σ : L2.St} {H H' : Hp} {ta tr : TA} {te : TE} {xs : List V} {x z v : V} {P : List V → Hp → Prop}
theorem EvP.mono {P : V → Hp → Prop} (e : Ex H H') (h : EvP te σ H P) : EvP te σ H' P := fun H1 a Q q => h H1 (e.trans a) Q q
theorem EvAP.mono (e : Ex H H') (h : EvAP ta σ H P) : EvAP ta σ H' P := fun H1 a Q q => h H1 (e.trans a) Q q
theorem evp_v (h : Ev te σ H v) : EvP te σ H (fun u _ => u = v) := fun H1 e Q q => h H1 e Q fun H2 e2 => q v H2 e2 rfl
theorem evp_l (h : EvL te σ H xs) : EvP te σ H (fun u H' => ∃ p, u = .ref p ∧ H' p = some (.lst xs)) := fun H1 e Q q => h H1 e Q fun p H2 _ e2 hp => q _ H2 e2 ⟨p, rfl, hp⟩
theorem evp_u (h : EvU te σ H xs) : EvP te σ H (fun u H' => ∃ p, u = .ref p ∧ H' p = some (.tup xs)) := fun H1 e Q q => h H1 e Q fun p H2 _ e2 hp => q _ H2 e2 ⟨p, rfl, hp⟩
theorem evp_gt {K : PySem.W.Frag} : EvP (tGT K xs) σ H (fun u _ => ∃ a, u = .ref a ∧ ∀ H', SqT K H' a xs) := fun H1 e Q q => fun a h => q _ H1 (Ex.refl H1) ⟨a, rfl, h⟩
theorem eap_nil : EvAP tNil σ H (fun vs _ => vs = []) := fun H1 _ Q q => q [] H1 (Ex.refl H1) rfl
theorem eap_v (h : Ev te σ H x) (hr : EvAP tr σ H P) : EvAP (tCons te tr) σ H (fun vs H' => ∃ r, vs = x :: r ∧ P r H') := fun H1 e Q q =>
  h H1 e _ fun H2 e2 => hr H2 (e.trans e2) _ fun r H3 e3 p => q _ H3 (e2.trans e3) ⟨r, rfl, p⟩
theorem eap_l (h : EvL te σ H xs) (hr : EvAP tr σ H P) : EvAP (tCons te tr) σ H (fun vs H' => ∃ a r, vs = .ref a :: r ∧ H' a = some (.lst xs) ∧ P r H') := fun H1 e Q q =>
  h H1 e _ fun a H2 _ e2 ha => hr H2 (e.trans e2) _ fun r H3 e3 p => q _ H3 (e2.trans e3) ⟨a, r, rfl, e3 a _ ha, p⟩
theorem eap_u (h : EvU te σ H xs) (hr : EvAP tr σ H P) : EvAP (tCons te tr) σ H (fun vs H' => ∃ a r, vs = .ref a :: r ∧ H' a = some (.tup xs) ∧ P r H') := fun H1 e Q q =>
  h H1 e _ fun a H2 _ e2 ha => hr H2 (e.trans e2) _ fun r H3 e3 p => q _ H3 (e2.trans e3) ⟨a, r, rfl, e3 a _ ha, p⟩
theorem ev_calP {ok : List V → Hp → V → Prop} (h : EvAP ta σ H P) (hk : ∀ vs H1, Ex H H1 → P vs H1 → ok vs H1 z) : Ev (tCall (spV ok) [] E0 ta) σ H z := fun H1 e Q q =>
  h H1 e _ fun vs H2 e2 p => ⟨z, by rw [List.append_nil]; exact hk vs H2 (e.trans e2) p, fun H3 e3 => q H3 (e2.trans e3)⟩
theorem el_calP {ok : List V → Hp → List V → Prop} (h : EvAP ta σ H P) (hk : ∀ vs H1, Ex H H1 → P vs H1 → ok vs H1 xs) : EvL (tCall (spL ok) [] E0 ta) σ H xs := fun H1 e Q q =>
  h H1 e _ fun vs H2 e2 p => ⟨xs, by rw [List.append_nil]; exact hk vs H2 (e.trans e2) p, fun a H3 ha e3 h3 => q a H3 (fresh_back e2 ha) (e2.trans e3) h3⟩
end

/-! ### lists of natural numbers; ranges in natural numbers; lists joined -/
def nats (xs : List Nat) : List V := xs.map fun n : Nat => V.int (n : Int)
theorem nats_len (xs : List Nat) : (nats xs).length = xs.length := List.length_map _
theorem nats_get {xs : List Nat} {i : Nat} (h : i < xs.length) : (nats xs)[i]? = some (.int ((xs.getD i 0 : Nat) : Int)) := by
  unfold nats
  rw [List.getElem?_map, List.getElem?_eq_getElem h, List.getD_eq_getElem?_getD, List.getElem?_eq_getElem h]
  rfl
theorem nats_app (xs ys : List Nat) : nats (xs ++ ys) = nats xs ++ nats ys := List.map_append
section
variable {K : PySem.W.Frag} {σ : L2.St} {H H' : Hp} {ta tb te : TE} {xs ys : List V} {x z v : V} {p : Addr} {D : Ends} {tu tz : TS}
theorem ev_ixL {j : Nat} (ha : Ev ta σ H (.ref p)) (hb : Ev tb σ H (.int (j : Int))) (hS : SqL K H p xs) (hx : xs[j]? = some v) : Ev (tOp (rIxL K) ta tb) σ H v := ev_op ha hb (rv_ixLn hS hx)
theorem ev_ixT {j : Nat} (ha : Ev ta σ H (.ref p)) (hb : Ev tb σ H (.int (j : Int))) (hS : SqT K H p xs) (hx : xs[j]? = some v) : Ev (tOp (rIxT K) ta tb) σ H v := ev_op ha hb (rv_ixTn hS hx)
theorem s_forR1N {ta : TA} {j n : Nat} (h : EvA ta σ H [.int (n : Int)]) (hn : n ≤ 100000) (Pv : Nat → L2.St → Hp → Prop) (h0 : ∀ H1, Ex H H1 → Pv 0 σ H1)
    (hs : ∀ (i : Nat) σ' H', i < n → Pv i σ' H' → tu { D with nx := Pv (i + 1), ct := Pv (i + 1), bk := D.nx } (σ'.set j (some (.int (i : Int)))) H') (hd : ∀ σ' H', Pv n σ' H' → D.nx σ' H') : tFor (iRng1 ta) (gName j) tu D σ H :=
  s_forR1 h (by omega) Pv h0 (fun i σ' H' hi => hs i σ' H' (by omega)) (by rw [Int.toNat_natCast]; exact hd)
theorem q_forR1N {ta : TA} {j n : Nat} (h : EvA ta σ H [.int (n : Int)]) (hn : n ≤ 100000) (Pv : Nat → L2.St → Hp → Prop) (h0 : ∀ H1, Ex H H1 → Pv 0 σ H1)
    (hs : ∀ (i : Nat) σ' H', i < n → Pv i σ' H' → tu { D with nx := Pv (i + 1), ct := Pv (i + 1), bk := tz D } (σ'.set j (some (.int (i : Int)))) H') (hd : ∀ σ' H', Pv n σ' H' → tz D σ' H') : tSeq (tFor (iRng1 ta) (gName j) tu) tz D σ H :=
  s_forR1N (D := { D with nx := tz D }) h hn Pv h0 hs hd
theorem s_forR2N {ta : TA} {j lo n : Nat} (h : EvA ta σ H [.int (lo : Int), .int (n : Int)]) (hn : lo ≤ 100000 ∧ n ≤ 100000) (Pv : Nat → L2.St → Hp → Prop) (h0 : ∀ H1, Ex H H1 → Pv 0 σ H1)
    (hs : ∀ (i : Nat) σ' H', lo + i < n → Pv i σ' H' → tu { D with nx := Pv (i + 1), ct := Pv (i + 1), bk := D.nx } (σ'.set j (some (.int ((lo + i : Nat) : Int)))) H') (hd : ∀ σ' H', Pv (n - lo) σ' H' → D.nx σ' H') : tFor (iRng2 ta) (gName j) tu D σ H :=
  s_forR2 h (by omega) Pv h0 (fun i σ' H' hi p => by
    have e := hs i σ' H' (by omega) p
    rw [Int.natCast_add] at e
    exact e) (by rw [show ((n : Int) - (lo : Int)).toNat = n - lo by omega]; exact hd)
theorem q_forR2N {ta : TA} {j lo n : Nat} (h : EvA ta σ H [.int (lo : Int), .int (n : Int)]) (hn : lo ≤ 100000 ∧ n ≤ 100000) (Pv : Nat → L2.St → Hp → Prop) (h0 : ∀ H1, Ex H H1 → Pv 0 σ H1)
    (hs : ∀ (i : Nat) σ' H', lo + i < n → Pv i σ' H' → tu { D with nx := Pv (i + 1), ct := Pv (i + 1), bk := tz D } (σ'.set j (some (.int ((lo + i : Nat) : Int)))) H') (hd : ∀ σ' H', Pv (n - lo) σ' H' → tz D σ' H') : tSeq (tFor (iRng2 ta) (gName j) tu) tz D σ H :=
  s_forR2N (D := { D with nx := tz D }) h hn Pv h0 hs hd
/-- a list that stands, or a new one -/
def IsL (xs : List V) : V → Hp → Prop := fun u H' => ∃ p, u = .ref p ∧ H' p = some (.lst xs)
theorem evl_n (h : EvL te σ H xs) : EvP te σ H (IsL xs) := evp_l h
theorem evl_k (h : Ev te σ H (.ref p)) (hp : H p = some (.lst xs)) : EvP te σ H (IsL xs) := fun H1 e Q q => h H1 e Q fun H2 e2 => q _ H2 e2 ⟨p, rfl, e2 p _ (e p _ hp)⟩
theorem el_cat (ha : EvP ta σ H (IsL xs)) (hb : EvP tb σ H (IsL ys)) (hz : xs.length + ys.length ≤ 100000) : EvL (tOp rCat ta tb) σ H (xs ++ ys) := fun H1 e Q q =>
  ha H1 e _ fun u H2 e2 ⟨p, hu, hp⟩ => hb H2 (e.trans e2) _ fun u2 H3 e3 ⟨p2, hu2, hp2⟩ => ⟨p, p2, xs, ys, hu, hu2, e3 p _ hp, hp2, sz_of hz, fun l hl =>
    q l _ (fresh_back (e2.trans e3) hl) ((e2.trans e3).trans (Ex.new hl)) upd_same⟩
theorem el_rep {k : Nat} (ha : EvP ta σ H (IsL xs)) (hb : Ev tb σ H (.int (k : Int))) (hk : k ≤ 100000) (hz : xs.length * k ≤ 100000) : EvL (tOp rRep ta tb) σ H (List.replicate k xs).flatten := fun H1 e Q q =>
  ha H1 e _ fun u H2 e2 ⟨p, hu, hp⟩ => hb H2 (e.trans e2) _ fun H3 e3 => ⟨p, k, xs, hu, rfl, e3 p _ hp, by omega, by omega, by rw [Int.toNat_natCast]; exact sz_of hz, fun l hl => by
    rw [Int.toNat_natCast]
    exact q l _ (fresh_back (e2.trans e3) hl) ((e2.trans e3).trans (Ex.new hl)) upd_same⟩
theorem el_listP (ha : EvP ta σ H (IsL xs)) : EvL (tCB (rListS K) (tCons ta tNil)) σ H xs := fun H1 e Q q =>
  ha H1 e _ fun u H2 e2 ⟨p, hu, hp⟩ => ⟨p, xs, by rw [hu], Or.inl (sq_of hp), fun l hl => q l _ (fresh_back e2 hl) (e2.trans (Ex.new hl)) upd_same⟩
end

/-! ### slices -/
theorem cutV_take (xs : List V) (n : Nat) : cutV xs none (some (n : Int)) = xs.take n := by
  unfold cutV
  rw [HT.sIx_nat, HT.sIx_none, List.drop_zero, Nat.sub_zero]
  by_cases h : n ≤ xs.length
  · rw [Nat.min_eq_left h]
  · rw [Nat.min_eq_right (by omega), List.take_of_length_le (Nat.le_refl _), List.take_of_length_le (by omega)]
theorem cutV_drop (xs : List V) (n : Nat) : cutV xs (some (n : Int)) none = xs.drop n := by
  unfold cutV
  rw [HT.sIx_nat, HT.sIx_none]
  by_cases h : n ≤ xs.length
  · rw [Nat.min_eq_left h, List.take_of_length_le (by rw [List.length_drop]; omega)]
  · rw [Nat.min_eq_right (by omega), List.drop_of_length_le (Nat.le_refl _), List.drop_of_length_le (show xs.length ≤ n by omega), List.take_nil]
theorem cutV_mid (xs : List V) (n m : Nat) (h : n ≤ xs.length) : cutV xs (some (n : Int)) (some (m : Int)) = (xs.drop n).take (m - n) := by
  unfold cutV
  rw [HT.sIx_nat, HT.sIx_nat, Nat.min_eq_left h]
  by_cases h2 : m ≤ xs.length
  · rw [Nat.min_eq_left h2]
  · rw [Nat.min_eq_right (by omega), List.take_of_length_le (by rw [List.length_drop]; omega), List.take_of_length_le (by rw [List.length_drop]; omega)]
theorem nats_take (xs : List Nat) (n : Nat) : nats (xs.take n) = (nats xs).take n := by unfold nats; rw [List.map_take]
theorem nats_drop (xs : List Nat) (n : Nat) : nats (xs.drop n) = (nats xs).drop n := by unfold nats; rw [List.map_drop]

/-! ### texts by their codes -/
def tx (l : List Nat) : Str := ⟨l.toArray⟩
theorem tx_app (a b : List Nat) : tx a ++ tx b = tx (a ++ b) := by
  show (⟨a.toArray ++ b.toArray⟩ : Str) = _
  unfold tx
  rw [List.append_toArray]
theorem tx_len (a : List Nat) : (tx a).length = a.length := List.size_toArray
theorem tx_list (a : List Nat) : (tx a).cps.toList = a := rfl
theorem tx_of (z : Str) : z = tx z.cps.toList := rfl
theorem tx_inj {a b : List Nat} (h : tx a = tx b) : a = b := by
  have := congrArg (fun z : Str => z.cps.toList) h
  exact this
section
variable {σ : L2.St} {H H' : Hp} {ta tb te : TE} {xs ys : List V} {x z v : V} {p : Addr} {D : Ends} {tu tz : TS}
theorem ev_cs {s : Str} (l : List Nat) (h : s = tx l) : Ev (tC (.str s)) σ H (.str (tx l)) := ev_is ev_c (by rw [h])
theorem rv_addS {a b : List Nat} (h : a.length + b.length ≤ 100000) : RV (fun x y H Q => ∃ i j, x = .str i ∧ y = .str j ∧ i.length + j.length ≤ sizeLine ∧ Q (.str (i ++ j)) H) (.str (tx a)) (.str (tx b)) H (.str (tx (a ++ b))) := fun H1 _ _ q =>
  ⟨tx a, tx b, rfl, rfl, by rw [tx_len, tx_len]; exact sz_of h, by rw [tx_app]; exact q H1 (Ex.refl H1)⟩
theorem rv_ixSn {l : List Nat} {i c : Nat} (h : l.length ≤ 100000) (hi : l[i]? = some c) : RV rIxS (.str (tx l)) (.int (i : Int)) H (.str (tx [c])) := rv_ixS (by rw [tx_len]; exact h) (atI_nat (by rw [tx_list]; exact hi))
theorem range_map {α β : Type} (xs : List α) (d : α) (g : α → β) : (List.range xs.length).map (fun i => g (xs.getD i d)) = xs.map g := by
  refine List.ext_getElem? fun i => ?_
  rw [List.getElem?_map, List.getElem?_map]
  by_cases h : i < xs.length
  · rw [List.getElem?_range h, List.getElem?_eq_getElem h]
    simp [List.getD_eq_getElem?_getD, List.getElem?_eq_getElem h]
  · rw [List.getElem?_eq_none (by rw [List.length_range]; omega), List.getElem?_eq_none (by omega)]
    rfl
theorem given_all (n : Nat) (v : Nat → V) : given n (fun _ => true) v = (List.range n).map v := by
  unfold given
  rw [List.filter_eq_self.mpr fun _ _ => rfl]
theorem given_nats (xs : List Nat) (g : Nat → Nat) : given xs.length (fun _ => true) (fun i => .int (g (xs.getD i 0) : Nat)) = nats (xs.map g) := by
  rw [given_all]
  unfold nats
  rw [List.map_map]
  exact range_map xs 0 fun n => V.int (g n : Nat)
theorem et_yes : EvT tYes σ H true := fun H1 _ Q q => q H1 (Ex.refl H1)
theorem rep_one (k n : Nat) : (List.replicate k (nats [n])).flatten = nats (List.replicate k n) := by
  induction k with
  | zero => rfl
  | succ k ih =>
    rw [List.replicate_succ, List.flatten_cons, ih, List.replicate_succ]
    rfl
theorem getD_of {xs : List Nat} {i : Nat} {x : V} (h : (nats xs)[i]? = some x) : x = .int ((xs.getD i 0 : Nat) : Int) ∧ i < xs.length := by
  have hi : i < xs.length := by
    have := (List.getElem?_eq_some_iff.mp h).1
    rw [nats_len] at this
    exact this
  rw [nats_get hi] at h
  exact ⟨(Option.some.inj h).symm, hi⟩
theorem getD_mem {xs : List Nat} {i : Nat} (h : i < xs.length) : xs.getD i 0 ∈ xs := by
  rw [List.getD_eq_getElem?_getD, List.getElem?_eq_getElem h]
  exact List.getElem_mem h
/-- an argument that is a list that stands or a new one -/
theorem eap_p {te : TE} {tr : TA} {P1 : V → Hp → Prop} {P : List V → Hp → Prop} (h : EvP te σ H P1) (hm : ∀ v H1 H2, Ex H1 H2 → P1 v H1 → P1 v H2) (hr : EvAP tr σ H P) : EvAP (tCons te tr) σ H (fun vs H' => ∃ v r, vs = v :: r ∧ P1 v H' ∧ P r H') := fun H1 e Q q =>
  h H1 e _ fun v H2 e2 p1 => hr H2 (e.trans e2) _ fun r H3 e3 p => q _ H3 (e2.trans e3) ⟨v, r, rfl, hm _ _ _ e3 p1, p⟩
theorem IsL.mono {v : V} {H1 H2 : Hp} (e : Ex H1 H2) (h : IsL xs v H1) : IsL xs v H2 := by
  obtain ⟨p, rfl, hp⟩ := h
  exact ⟨p, rfl, e p _ hp⟩
end
end My

set_option Elab.async false
set_option linter.all false
set_option maxRecDepth 100000
set_option maxHeartbeats 1000000
/-! zip(v1, v2, strict=True) over two of one length: made, drawn, ended. -/
namespace My
open PySem PySem.Spec PyProof.Rows L2 Evl Builtin.SmallTypes
section
variable {prog : Program} {w : World} {A : Around} {E : Value → Shared → Prop} {s : Shared} {it : Addr} {fp : List Addr} {n i : Nat} {P : Nat → Value → Prop} {St : Nat → Heap → Prop}
theorem orEnd_item {Q : Option Value → Shared → Prop} (D : Draws prog w A it fp n P St) (hi : i < n) (st : St i s.heap)
    (h : ∀ x h' tk, P i x → St (i + 1) h' → Heap.SameBut it s.heap h' → Q (some x) { s with heap := h', toks := tk }) : wpAny (model prog w) A (nextOrEnd (.ref it)) Q E s := by
  unfold nextOrEnd
  exact wpAny_bind (wpAny_attempt (D.item i s _ _ hi st fun x h' tk p q b => wpAny_pure (h x h' tk p q b)))
theorem orEnd_done {Q : Option Value → Shared → Prop} (D : Draws prog w A it fp n P St) (st : St n s.heap)
    (h : ∀ h', Heap.ExtBut it s.heap h' → Q none { s with heap := h' }) : wpAny (model prog w) A (nextOrEnd (.ref it)) Q E s := by
  unfold nextOrEnd
  refine wpAny_bind (wpAny_attempt (D.done s _ _ st fun h' e x y => ?_))
  obtain ⟨o, ho, hc⟩ := y
  exact wpAny_bind (wpAny_isInstance (T := "StopIteration") (b := true) ⟨o, ho, hc⟩ isSubtype_stop (wpAny_pure (h h' x)))
end
/-- a strict zip object -/
abbrev IsZipS (h : Heap) (z TI TO : Addr) (f0 : Value) : Prop :=
  h.get? z = some { cls := .type "zip", dict := none, data := .fields #[f0, .bool false, .bool true, .ref TI, .ref TO], slots := #[] }

section
variable {prog : Program} {w : World} {A : Around} {E : Value → Shared → Prop} {s : Shared} {z TI TO i1 i2 : Addr} {fp1 fp2 : List Addr} {n i : Nat} {P1 P2 : Nat → Value → Prop} {St1 St2 : Nat → Heap → Prop} {a1 a2 : Value}
/-- one draw from both -/
theorem zs_item {Q : Value → Shared → Prop} (S : ZipSep2 z TI TO i1 i2 fp1 fp2) (D1 : Draws prog w A i1 fp1 n P1 St1) (D2 : Draws prog w A i2 fp2 n P2 St2)
    (hz : IsZipS s.heap z TI TO .none) (hTI : IsTupOf2 s.heap TI (.ref i1) (.ref i2)) (hTO : IsTupOf2 s.heap TO a1 a2) (st1 : St1 i s.heap) (st2 : St2 i s.heap) (hlt : i < n)
    (hQ : ∀ x1 x2 h' tk, P1 i x1 → P2 i x2 → IsZipS h' z TI TO (rawInt s.heap.objs.size) → IsTupOf2 h' TO x1 x2 → St1 (i + 1) h' → St2 (i + 1) h' → IsTupOf2 h' s.heap.objs.size x1 x2 → h'.objs.size = s.heap.objs.size + 1 →
      (∀ c o, c ≠ z → c ≠ TO → c ≠ i1 → c ≠ i2 → s.heap.get? c = some o → h'.get? c = some o) → Q (.ref s.heap.objs.size) { s with heap := h', toks := tk }) :
    wpAny (model prog w) A (Builtin.«zip.__next__» ⟨[.ref z], []⟩) (fun fin s' => ∃ v, fin = .done (.ret v) ∧ Q v s') E s := by
  obtain ⟨hp, gs, dr, tk0, os⟩ := s
  show wpAny _ _ (field (.ref z) 2 >>= _) _ _ _
  refine wpAny_bind (wpAny_field hz rfl (x := .bool true) rfl ?_)
  show wpAny _ _ (field (.ref z) 3 >>= _) _ _ _
  refine wpAny_bind (wpAny_field hz rfl (x := .ref TI) rfl (wpAny_bind (wpAny_seqItems hTI rfl ?_)))
  show wpAny _ _ (ownedTupleIsFree (.ref z) >>= _) _ _ _
  refine wpAny_bind ?_
  unfold ownedTupleIsFree
  refine wpAny_bind (wpAny_field hz rfl (x := .none) rfl (wpAny_pure ?_))
  simp only [if_true]
  refine wpAny_bind (wpAny_rule (wpAny_bind (wpAny_field hz rfl (x := .ref TO) rfl (wpAny_bind (wpAny_setField_rec hz (by simp) fun g0 hz0 hs0 => ?_)))))
  replace hz0 : IsZipS g0 z TI TO .ellipsis := hz0
  replace hs0 : Heap.SameBut z hp g0 := hs0
  refine wpAny_bind ?_
  simp only [List.zipIdx_cons, List.zipIdx_nil, List.forIn_cons, List.forIn_nil]
  refine wpAny_bind (wpAny_bind (wpAny_onRaise ?_))
  show wpAny _ _ (nextOrEnd (.ref i1)) _ _ ⟨g0, gs, dr, tk0, os⟩
  refine orEnd_item D1 hlt (D1.over st1 hs0 S.zf1) fun x1 p1 tk1 hx1 sn1 hp1 => ?_
  replace hp1 : Heap.SameBut i1 g0 p1 := hp1
  have u1 : IsTupOf2 p1 TO a1 a2 := hp1.extBut _ _ S.Ti1 (hs0.extBut _ _ S.TOz hTO)
  refine wpAny_bind (wpAny_seqItems (s := ⟨p1, gs, dr, tk1, os⟩) u1 rfl (wpAny_bind (updateSeq_IsTupOf2 (s := ⟨p1, gs, dr, tk1, os⟩) u1 fun g1 t1 hs1 => ?_)))
  replace t1 : IsTupOf2 g1 TO x1 a2 := t1
  replace hs1 : Heap.SameBut TO p1 g1 := hs1
  refine wpAny_bind (wpAny_letGo (wpAny_pure (wpAny_bind (wpAny_bind (wpAny_onRaise ?_)))))
  show wpAny _ _ (nextOrEnd (.ref i2)) _ _ ⟨g1, gs, dr, tk1, os⟩
  refine orEnd_item D2 hlt (D2.over (D2.over (D2.over st2 hs0 S.zf2) hp1 S.sep1_2) hs1 S.Tf2) fun x2 p2 tk2 hx2 sn2 hp2 => ?_
  replace hp2 : Heap.SameBut i2 g1 p2 := hp2
  have u2 : IsTupOf2 p2 TO x1 a2 := hp2.extBut _ _ S.Ti2 t1
  refine wpAny_bind (wpAny_seqItems (s := ⟨p2, gs, dr, tk2, os⟩) u2 rfl (wpAny_bind (updateSeq_IsTupOf2 (s := ⟨p2, gs, dr, tk2, os⟩) u2 fun g2 t2 hs2 => ?_)))
  replace t2 : IsTupOf2 g2 TO x1 x2 := t2
  replace hs2 : Heap.SameBut TO p2 g2 := hs2
  refine wpAny_bind (wpAny_letGo (wpAny_pure (wpAny_pure (wpAny_bind (wpAny_seqItems (s := ⟨g2, gs, dr, tk2, os⟩) t2 rfl (wpAny_bind (wpAny_newTuple ?_)))))))
  have sz : g2.objs.size = hp.objs.size := by rw [hs2.1, hp2.1, hs1.1, hp1.1, hs0.1]
  have hzz : IsZipS g2 z TI TO .ellipsis := hs2.extBut _ _ S.TOz.symm (hp2.extBut _ _ S.zi2 (hs1.extBut _ _ S.TOz.symm (hp1.extBut _ _ S.zi1 hz0)))
  have kk : ∀ c o, c ≠ z → c ≠ TO → c ≠ i1 → c ≠ i2 → hp.get? c = some o → g2.get? c = some o := fun c o cz cT c1 c2 e => hs2.extBut _ _ cT (hp2.extBut _ _ c2 (hs1.extBut _ _ cT (hp1.extBut _ _ c1 (hs0.extBut _ _ cz e))))
  have j1 : St1 (i + 1) g2 := D1.over (D1.over (D1.over sn1 hs1 S.Tf1) hp2 S.sep2_1) hs2 S.Tf1
  have j2 : St2 (i + 1) g2 := D2.over sn2 hs2 S.Tf2
  have zlt : z < g2.objs.size := Heap.lt_size hzz
  show wpAny _ _ (ownedTupleHandOut (.ref z) (.ref g2.objs.size) >>= _) _ _ ⟨g2.push { cls := .type "tuple", data := .seq #[x1, x2] }, gs, dr, tk2, os⟩
  generalize ht : ({ cls := .type "tuple", data := .seq #[x1, x2] } : Obj) = ob
  refine wpAny_bind ?_
  unfold ownedTupleHandOut
  refine wpAny_bind (wpAny_setField_rec (Heap.get?_push_of_some ob hzz) (by simp) fun h7 hz7 hs7 => ?_)
  replace hz7 : IsZipS h7 z TI TO (rawInt g2.objs.size) := hz7
  replace hs7 : Heap.SameBut z (g2.push ob) h7 := hs7
  refine wpAny_setField_rec hz7 (by simp) fun h8 hz8 hs8 => ?_
  replace hz8 : IsZipS h8 z TI TO (rawInt g2.objs.size) := hz8
  replace hs8 : Heap.SameBut z h7 h8 := hs8
  have up : ∀ c o, c ≠ z → g2.get? c = some o → h8.get? c = some o := fun c o c1 e => hs8.extBut _ _ c1 (hs7.extBut _ _ c1 (Heap.get?_push_of_some _ e))
  have t8 : h8.get? g2.objs.size = some ob := hs8.extBut _ _ (Nat.ne_of_gt zlt) (hs7.extBut _ _ (Nat.ne_of_gt zlt) (Heap.get?_push_size _ (by rw [← ht]; rfl)))
  have s8 : h8.objs.size = g2.objs.size + 1 := by rw [hs8.1, hs7.1, Heap.size_push]
  rw [sz] at hz8 t8 s8
  rw [← ht] at t8
  refine wpAny_pure ⟨_, rfl, ?_⟩
  show Q (.ref g2.objs.size) ⟨h8, gs, dr, tk2, os⟩
  rw [sz]
  exact hQ x1 x2 h8 tk2 hx1 hx2 hz8 (up _ _ S.TOz t2) (D1.frame _ _ _ j1 fun b hb o e => up b o (fun q => S.zf1 (q ▸ hb)) e) (D2.frame _ _ _ j2 fun b hb o e => up b o (fun q => S.zf2 (q ▸ hb)) e) t8 s8 fun c o cz cT c1 c2 e => up c o cz (kk c o cz cT c1 c2 e)
/-- both are at their ends -/
theorem zs_end {Q : Fin → Shared → Prop} (hh : A.handled = none) (S : ZipSep2 z TI TO i1 i2 fp1 fp2) (D1 : Draws prog w A i1 fp1 n P1 St1) (D2 : Draws prog w A i2 fp2 n P2 St2)
    (hz : IsZipS s.heap z TI TO .none) (hTI : IsTupOf2 s.heap TI (.ref i1) (.ref i2)) (hTO : IsTupOf2 s.heap TO a1 a2) (st1 : St1 n s.heap) (st2 : St2 n s.heap)
    (hE : ∀ h' e, (∀ c o, c ≠ z → c ≠ TO → c ≠ i1 → c ≠ i2 → s.heap.get? c = some o → h'.get? c = some o) → (∃ o, h'.get? e = some o ∧ o.cls = .type "StopIteration") → E (.ref e) { s with heap := h' }) :
    wpAny (model prog w) A (Builtin.«zip.__next__» ⟨[.ref z], []⟩) Q E s := by
  obtain ⟨hp, gs, dr, tk0, os⟩ := s
  show wpAny _ _ (field (.ref z) 2 >>= _) _ _ _
  refine wpAny_bind (wpAny_field hz rfl (x := .bool true) rfl ?_)
  show wpAny _ _ (field (.ref z) 3 >>= _) _ _ _
  refine wpAny_bind (wpAny_field hz rfl (x := .ref TI) rfl (wpAny_bind (wpAny_seqItems hTI rfl ?_)))
  show wpAny _ _ (ownedTupleIsFree (.ref z) >>= _) _ _ _
  refine wpAny_bind ?_
  unfold ownedTupleIsFree
  refine wpAny_bind (wpAny_field hz rfl (x := .none) rfl (wpAny_pure ?_))
  simp only [if_true]
  refine wpAny_bind (wpAny_rule (wpAny_bind (wpAny_field hz rfl (x := .ref TO) rfl (wpAny_bind (wpAny_setField_rec hz (by simp) fun g0 hz0 hs0 => ?_)))))
  replace hz0 : IsZipS g0 z TI TO .ellipsis := hz0
  replace hs0 : Heap.SameBut z hp g0 := hs0
  refine wpAny_bind ?_
  simp only [List.zipIdx_cons, List.zipIdx_nil, List.forIn_cons, List.forIn_nil]
  refine wpAny_bind (wpAny_bind (wpAny_onRaise ?_))
  show wpAny _ _ (nextOrEnd (.ref i1)) _ _ ⟨g0, gs, dr, tk0, os⟩
  refine orEnd_done D1 (D1.over st1 hs0 S.zf1) fun p1 hp1 => ?_
  replace hp1 : Heap.ExtBut i1 g0 p1 := hp1
  have hz1 : IsZipS p1 z TI TO .ellipsis := hp1 _ _ S.zi1 hz0
  refine wpAny_bind (wpAny_setField_rec hz1 (by simp) fun g1 hz2 hs1 => ?_)
  replace hs1 : Heap.SameBut z p1 g1 := hs1
  refine wpAny_bind (wpAny_bind (wpAny_bind ?_))
  show wpAny _ _ (nextOrEnd (.ref i2) >>= _) _ _ ⟨g1, gs, dr, tk0, os⟩
  refine wpAny_bind (orEnd_done D2 (D2.over (D2.frame _ _ _ (D2.over st2 hs0 S.zf2) fun b hb o e => hp1 b o (fun q => S.sep1_2 (q ▸ hb)) e) hs1 S.zf2) fun p2 hp2 => ?_)
  replace hp2 : Heap.ExtBut i2 g1 p2 := hp2
  simp only [Option.isSome_none, Bool.false_eq_true, if_false]
  refine wpAny_pure (wpAny_pure (wpAny_bind (wpAny_rule ?_)))
  show wpAny _ _ (newExc (.type "StopIteration") [] >>= _) _ _ _
  refine wpAny_bind ?_
  simp only [newExc, newTuple]
  refine wpAny_bind (wpAny_newObj_type ?_ (by size_fits))
  refine wpAny_bind (m := firstArgMember _ _) (wpAny_of_eq (a := Value.none) (by first | rfl | (simp only [firstArgMember]; rfl)) ?_)
  refine wpAny_newObj_type ?_ (by size_fits)
  simp only [raiseNew]
  refine wpAny_bind (wpAny_handled ?_)
  rw [hh]
  refine wpAny_bind (wpAny_pure (wpAny_throw ?_))
  exact hE _ _ (fun c o cz cT c1 c2 e => Heap.get?_push_of_some _ (Heap.get?_push_of_some _ (hp2 _ _ c2 (hs1.extBut _ _ cz (hp1 _ _ c1 (hs0.extBut _ _ cz e)))))) ⟨_, Heap.get?_push_size _ rfl, rfl⟩
end

/-! ### sources: a list or a tuple -/
def SqB (K : PySem.W.Frag) (t : Bool) (H : Hp) (a : Addr) (xs : List V) : Prop := match t with | true => SqT K H a xs | false => SqL K H a xs
def ItB (t : Bool) (h : Heap) (it a : Addr) (i : Nat) : Prop := match t with | true => h.IsTupleIter it a i | false => h.IsListIter it a i
def SeB (t : Bool) (h : Heap) (a : Addr) (its : Array Value) : Prop := match t with | true => h.IsTuple a its | false => h.IsList a its
def oB (t : Bool) (a : Addr) : Obj := match t with | true => { cls := .type "tuple_iterator", data := .fields #[.ref a, .int 0 0] } | false => { cls := .type "list_iterator", data := .fields #[.ref a, .int 0 0] }
theorem beginsB (t : Bool) (a : Addr) (its : Array Value) : Begins (.ref a) (oB t a) fun h => SeB t h a its := by
  cases t
  · exact begins_list a its
  · exact begins_tuple a its
theorem oB_it (t : Bool) {h : Heap} {it a : Addr} (e : h.get? it = some (oB t a)) : ItB t h it a 0 := by
  cases t
  · exact ⟨_, e, rfl, rfl⟩
  · exact ⟨_, e, rfl, rfl⟩
theorem ItB.at {t : Bool} {h h' : Heap} {it a : Addr} {i : Nat} (x : ItB t h it a i) (k : ∀ o, h.get? it = some o → h'.get? it = some o) : ItB t h' it a i := by
  cases t
  · exact Heap.IsListIter.at x k
  · exact Heap.IsTupleIter.at x k
theorem ItB.obj {t : Bool} {h : Heap} {it a : Addr} {i : Nat} (x : ItB t h it a i) : ∃ o, h.get? it = some o ∧ ∀ v, o.data ≠ .cell v := by
  cases t
  · obtain ⟨o, e, _, d⟩ := x
    exact ⟨o, e, fun v q => by rw [d] at q; cases q⟩
  · obtain ⟨o, e, _, d⟩ := x
    exact ⟨o, e, fun v q => by rw [d] at q; cases q⟩
section
variable {prog : Program} {w : World} {A : Around}
theorem drawsB (hh : A.handled = none) (t : Bool) (it a : Addr) (ne : a ≠ it) (its : Array Value) : Draws prog w A it [it, a] its.size (fun i v => its[i]? = some v) (fun i h => ItB t h it a i ∧ SeB t h a its) := by
  cases t
  · exact Draws.list hh it a ne its
  · exact Draws.tuple hh it a ne its
end
section
variable {X : Cx} {pins : List (Addr × Obj)} {σ : L2.St} {H : Hp} {s : Shared} {a : Addr} {xs ys : List V} {t : Bool}
theorem sqB_inv (I : Inv X pins σ H s) (h : SqB X.K t H a xs) : ∃ its : List Value, Vals xs its ∧ SeB t s.heap a its.toArray ∧ a < s.heap.objs.size := by
  cases t
  · obtain ⟨its, r, p, _⟩ := I.list h
    exact ⟨its, r, p.isList, p.lt⟩
  · obtain ⟨its, r, p, _⟩ := I.tuple h
    exact ⟨its, r, p, p.lt⟩
theorem sqB_inj (I : Inv X pins σ H s) (h : SqB X.K t H a xs) (h' : SqB X.K t H a ys) : xs = ys := by
  cases t
  · exact I.list_inj h h'
  · exact I.tuple_inj h h'
end
/-- both sources as they stand at each turn, of one length -/
def Itzs (K : PySem.W.Frag) (t1 t2 : Bool) (a b : Addr) : It :=
  ⟨fun i H => ∃ (xs ys : List V) (x y : V), SqB K t1 H a xs ∧ SqB K t2 H b ys ∧ xs.length = ys.length ∧ xs[i]? = some x ∧ ys[i]? = some y,
    fun i H v H' => ∃ T x y, v = .ref T ∧ H T = none ∧ H' = upd H T (.tup [x, y]) ∧ (∀ xs, SqB K t1 H a xs → xs[i]? = some x) ∧ ∀ ys, SqB K t2 H b ys → ys[i]? = some y,
    fun i H => ∃ xs ys : List V, SqB K t1 H a xs ∧ SqB K t2 H b ys ∧ xs.length = i ∧ ys.length = i⟩
section
variable {prog : Program} {w : World} {A : Around} {E : Value → Shared → Prop} {s : Shared}
theorem zs_iter {z TI TO : Addr} {f0 : Value} {Q : Value → Shared → Prop} (hz : IsZipS s.heap z TI TO f0) (h : Q (.ref z) s) : wpAny (model prog w) A (pyIter (.ref z)) Q E s := by
  have hT : s.TypeIs (.ref z) "zip" := ⟨_, hz, rfl⟩
  refine wpAny_pyIter_slot hT F.slot_zip_iter (wpAny_call_entry F.slot_zip_iter hT F.entry_zip_iter ?_ (F.args_zip_iter_1 _))
  show wpAny _ _ (ret (.ref z)) _ _ s
  exact wpAny_pure ⟨_, rfl, "zip", _, hT, F.slot_zip_next.lookup, h⟩
theorem zs_go {elts : List Expr} {x1} {pos : Pos} {z TI TO T : Addr} {Q : Unit → Shared → Prop} (hz : IsZipS s.heap z TI TO (rawInt T)) (hQ : ∀ h', IsZipS h' z TI TO .none → Heap.SameBut z s.heap h' → Q () { s with heap := h' }) :
    wpAny (model prog w) A (letOwnedTupleGo (.Tuple elts x1 pos) (.ref z) (.ref T)) Q E s := by
  unfold letOwnedTupleGo
  refine wpAny_bind (wpAny_load hz ?_)
  show wpAny _ _ (if (["enumerate", "zip", "dict_itemiterator", "dict_reverseitemiterator", "odict_iterator", "itertools.zip_longest", "itertools.pairwise"].contains "zip" &&
      (#[rawInt T, .bool false, .bool true, .ref TI, .ref TO] : Array Value)[0]? == some (rawInt T)) = true then _ else _) Q E s
  rw [if_pos (by simp)]
  refine wpAny_bind (wpAny_rule ?_)
  show wpAny _ _ (setField (.ref z) 0 .none) Q E s
  exact wpAny_setField_rec hz (by simp) fun h' hz' hs' => hQ h' hz' hs'
end
theorem turn_zs {P : Program} {w : World} {K : PySem.W.Frag} {elts : List Expr} {kk : Nat} {tpos : Pos} {a b z TI TO i1 i2 : Addr} (t1 t2 : Bool) (S : ZipSep2 z TI TO i1 i2 [i1, a] [i2, b]) (ne1 : a ≠ i1) (ne2 : b ≠ i2) :
    Turn P w K (.Tuple elts kk tpos) (Itzs K t1 t2 a b) [z, TI, TO, i1, i2] z (fun i h => IsZipS h z TI TO .none ∧ IsTupOf2 h TI (.ref i1) (.ref i2) ∧ (∃ x y, IsTupOf2 h TO x y) ∧ ItB t1 h i1 a i ∧ ItB t2 h i2 b i) := by
  have five : ∀ {c}, c ∈ [z, TI, TO, i1, i2] → c = z ∨ c = TI ∨ c = TO ∨ c = i1 ∨ c = i2 := fun h => by simpa using h
  have nofive : ∀ {c}, c ∉ [z, TI, TO, i1, i2] → c ≠ z ∧ c ≠ TI ∧ c ≠ TO ∧ c ≠ i1 ∧ c ≠ i2 := fun h => by simpa using h
  refine
  { mem := by simp
    obj := fun i h st c hc => ?_
    keep := fun i h h' st k => ?_
    item := ?_
    done := ?_
    self := fun A i s Q E st h => zs_iter st.1 h }
  · obtain ⟨hz, hTI, ⟨x, y, hTO⟩, h1, h2⟩ := st
    rcases five hc with rfl | rfl | rfl | rfl | rfl
    · exact ⟨_, hz, fun v q => by cases q⟩
    · exact ⟨_, hTI, fun v q => by cases q⟩
    · exact ⟨_, hTO, fun v q => by cases q⟩
    · exact h1.obj
    · exact h2.obj
  · obtain ⟨hz, hTI, ⟨x, y, hTO⟩, h1, h2⟩ := st
    exact ⟨k z (by simp) _ hz, k TI (by simp) _ hTI, ⟨x, y, k TO (by simp) _ hTO⟩, h1.at fun o q => k i1 (by simp) o q, h2.at fun o q => k i2 (by simp) o q⟩
  · intro X hP hw hK hc i pins s σ H E I hf st hg
    subst hP hw hK
    obtain ⟨hz, hTI, ⟨x0, y0, hTO⟩, h1, h2⟩ := st
    obtain ⟨xs, ys, x, y, hqx, hqy, hl, hx, hy⟩ := hg
    obtain ⟨its, rv, p1, _⟩ := sqB_inv I hqx
    obtain ⟨its2, rv2, p2, _⟩ := sqB_inv I hqy
    obtain ⟨u, hu, ru⟩ := rv.get hx
    obtain ⟨u2, hu2, ru2⟩ := rv2.get hy
    have hh := I.ok.hd hc
    have hzl : z < s.heap.objs.size := Heap.lt_size hz
    have il : i < its.toArray.size := by
      have := (List.getElem?_eq_some_iff.mp hu).1
      simpa using this
    have D1 := drawsB (prog := X.prog) (w := X.w) (A := X.A.in1) hh t1 i1 a ne1 its.toArray
    have D2 := drawsB (prog := X.prog) (w := X.w) (A := X.A.in1) hh t2 i2 b ne2 its2.toArray
    have le : its2.toArray.size = its.toArray.size := by
      have l1 := rv.length
      have l2 := rv2.length
      simp only [List.size_toArray]
      omega
    rw [le] at D2
    have hT : s.TypeIs (.ref z) "zip" := ⟨_, hz, rfl⟩
    unfold pyNext
    refine wpAny_bind (wpAny_attempt (wpAny_callSpecial?_slot (name := Str.ofString "__next__") hT F.slot_zip_next (wpAny_call_entry F.slot_zip_next hT F.entry_zip_next
      (zs_item S D1 D2 hz hTI hTO ⟨h1, p1⟩ ⟨h2, p2⟩ il fun v1 v2 h' tk hv1 hv2 z' TO' n1 n2 hT' hsz hk => ?_) (F.args_zip_next_1 _))))
    have e1 : v1 = u := by
      have hv1 : its[i]? = some v1 := by simpa using hv1
      rw [hu] at hv1
      exact (Option.some.inj hv1).symm
    have e2 : v2 = u2 := by
      have hv2 : its2[i]? = some v2 := by simpa using hv2
      rw [hu2] at hv2
      exact (Option.some.inj hv2).symm
    subst e1 e2
    refine wpAny_pure ⟨_, rfl, zs_go (s := { s with heap := h', toks := tk }) z' fun h'' z'' sb => ?_⟩
    replace sb : Heap.SameBut z h' h'' := sb
    have hT2 : h''.get? s.heap.objs.size = some { cls := .type "tuple", data := .seq #[v1, v2] } := (sb.2 _ (Nat.ne_of_gt hzl)).trans hT'
    have new : ObjOk X.prog X.w (upd H s.heap.objs.size (.tup [x, y])) h'' s.heap.objs.size (.tup [x, y]) := ⟨by show 2 ≤ sizeLine; decide, [v1, v2], .cons ru (.cons ru2 .nil), ⟨_, hT2, rfl, _, rfl⟩⟩
    have I1 : Inv X pins σ (upd H s.heap.objs.size (.tup [x, y])) { s with heap := h'', toks := tk } :=
      I.turnedNew (t' := tk) (ch := [z, TI, TO, i1, i2]) (fun c o hb q => by
        obtain ⟨c1, c2, c3, c4, c5⟩ := nofive hb
        exact (sb.2 c c1).trans (hk c o c1 c3 c4 c5 q)) hf (Nat.le_refl _) new
    refine ⟨.ref s.heap.objs.size, _, I1, rfl, ⟨_, x, y, rfl, I.hok.fresh (Nat.le_refl _), rfl, fun l hl => by rw [sqB_inj I hl hqx]; exact hx, fun l hl => by rw [sqB_inj I hl hqy]; exact hy⟩, ⟨z'', ?_, ⟨v1, v2, ?_⟩, ?_, ?_⟩, fun c hcm => ?_⟩
    · exact (sb.2 _ S.TIz).trans (hk _ _ S.TIz S.TITO S.TIi1 S.TIi2 hTI)
    · exact (sb.2 _ S.TOz).trans TO'
    · exact n1.1.at fun o q => (sb.2 _ S.zi1.symm).trans q
    · exact n2.1.at fun o q => (sb.2 _ S.zi2.symm).trans q
    · have hlt : c < s.heap.objs.size := by
        rcases five hcm with q | q | q | q | q
        · rw [q]; exact hzl
        · rw [q]; exact Heap.lt_size hTI
        · rw [q]; exact Heap.lt_size hTO
        · rw [q]; obtain ⟨_, e1, _⟩ := h1.obj; exact Heap.lt_size e1
        · rw [q]; obtain ⟨_, e2, _⟩ := h2.obj; exact Heap.lt_size e2
      rw [upd_ne (Nat.ne_of_lt hlt)]
      exact (hf c hcm).1
  · intro X hP hw hK hc i pins s σ H E I hf st hg
    subst hP hw hK
    obtain ⟨hz, hTI, ⟨x0, y0, hTO⟩, h1, h2⟩ := st
    obtain ⟨xs, ys, hqx, hqy, l1, l2⟩ := hg
    obtain ⟨its, rv, p1, _⟩ := sqB_inv I hqx
    obtain ⟨its2, rv2, p2, _⟩ := sqB_inv I hqy
    have hh := I.ok.hd hc
    have z1 : its.toArray.size = i := by rw [List.size_toArray, ← rv.length, l1]
    have z2 : its2.toArray.size = i := by rw [List.size_toArray, ← rv2.length, l2]
    have D1 := drawsB (prog := X.prog) (w := X.w) (A := X.A.in1) hh t1 i1 a ne1 its.toArray
    have D2 := drawsB (prog := X.prog) (w := X.w) (A := X.A.in1) hh t2 i2 b ne2 its2.toArray
    rw [z1] at D1
    rw [z2] at D2
    have hT : s.TypeIs (.ref z) "zip" := ⟨_, hz, rfl⟩
    unfold pyNext
    refine wpAny_bind (wpAny_attempt (wpAny_callSpecial?_slot (name := Str.ofString "__next__") hT F.slot_zip_next (wpAny_call_entry F.slot_zip_next hT F.entry_zip_next
      (zs_end (by exact hh) S D1 D2 hz hTI hTO ⟨h1, p1⟩ ⟨h2, p2⟩ fun h' e hk he => ?_) (F.args_zip_next_1 _))))
    obtain ⟨o, ho, hc'⟩ := he
    refine wpAny_bind (wpAny_isInstance (T := "StopIteration") (b := true) ⟨o, ho, hc'⟩ isSubtype_stop (wpAny_pure ⟨rfl, ?_⟩))
    exact I.turnedL (t' := s.toks) (ch := [z, TI, TO, i1, i2]) (fun c o hb q => by
      obtain ⟨c1, c2, c3, c4, c5⟩ := nofive hb
      exact hk c o c1 c3 c4 c5 q) hf
/-! ### the call -/
theorem typeCall_zs (a b : Value) : checkTypeCall "zip" ⟨[a, b], [(Str.ofString "strict", .bool true)]⟩ = pure () := by kernel_rfl
theorem newCall_zs (a b : Value) : checkBuiltinCall "zip.__new__" ⟨[.type "zip", a, b], [(Str.ofString "strict", .bool true)]⟩ = pure () := by kernel_rfl
theorem init_zs (obj a b : Value) : argsOk "object.__init__" ⟨[obj, a, b], [(Str.ofString "strict", .bool true)]⟩ := by unfold argsOk; kernel_rfl
abbrev zsZ (h : Heap) (o1 o2 : Obj) : Heap := (gzO2 h o1 o2).push { cls := .type "zip", data := .fields #[.none, .bool false, .bool true, .ref ((h.push o1).push o2).objs.size, .ref (gzT2 h o1 o2).objs.size] }
theorem meets_zs {v1 v2 : Value} {o1 o2 : Obj} {H1 H2 : Heap → Prop} (B1 : Begins v1 o1 H1) (B2 : Begins v2 o2 H2) :
    Meets (Builtin.«zip.__new__» ⟨[.type "zip", v1, v2], [(Str.ofString "strict", .bool true)]⟩) (fun _ R s => (H1 s.heap ∧ H2 s.heap) ∧ R (.ok (.ret (.ref (gzO2 s.heap o1 o2).objs.size))) { s with heap := zsZ s.heap o1 o2 }) :=
  .of_wp fun prog w A R s h => by
    obtain ⟨hp, g, d, tk, os⟩ := s; obtain ⟨⟨h1, h2⟩, h⟩ := h
    have hsub := sub_zip
    have q1 : ∀ {A' : Around} {E : Value → Shared → Prop} {Q : Value → Shared → Prop}, Q (.ref hp.objs.size) ⟨(hp.push o1), g, d, tk, os⟩ → wpAny (model prog w) A' (pyIter v1) Q E ⟨hp, g, d, tk, os⟩ :=
      fun q => B1.iter prog w _ _ ⟨hp, g, d, tk, os⟩ _ (B1.keeps _ _ h1 fun b o' e => e) q
    have q2 : ∀ {A' : Around} {E : Value → Shared → Prop} {Q : Value → Shared → Prop}, Q (.ref (hp.push o1).objs.size) ⟨((hp.push o1).push o2), g, d, tk, os⟩ → wpAny (model prog w) A' (pyIter v2) Q E ⟨(hp.push o1), g, d, tk, os⟩ :=
      fun q => B2.iter prog w _ _ ⟨(hp.push o1), g, d, tk, os⟩ _ (B2.keeps _ _ h2 fun b o' e => (Heap.get?_push_of_some _ e)) q
    have e1 : (Str.ofString "strict" != ("strict" : Str)) = false := by decide +kernel
    wp_walk using q1, q2
    exact ⟨_, rfl, h⟩
end My

set_option Elab.async false
set_option linter.all false
set_option maxRecDepth 100000
set_option maxHeartbeats 1000000
namespace My
open PySem PySem.Spec PyProof.Rows L2 Evl Builtin.SmallTypes
/-- a built-in class called with keywords -/
theorem callTy_kw {M : Model} {A : Around} {E : Value → Shared → Prop} {s : Shared} {env : Env} {pos : Pos} {T : String} {e : Expr} {rest : List Expr} {kws : List Keyword} {Q : Value → Shared → Prop}
    (h : wpAny M A (spliced (backTo pos (starEach (e :: rest) env))) (fun vs s1 => wpAny M A (evalAll ((backToKw pos (keywordEach kws env)).map (·.2)))
      (fun ks s2 => wpAny M A (call (.type T) vs (((backToKw pos (keywordEach kws env)).filterMap (·.1)).zip ks)) Q E s2) E s1) E s)
    (he : backTo pos (starEach (e :: rest) env) = (false, eval e env) :: backTo pos (starEach rest env)) (h1 : (backTo pos (starEach (e :: rest) env)).any (·.1) = false)
    (h2 : (backToKw pos (keywordEach kws env)).all (·.1.isSome) = true) (h3 : (backToKw pos (keywordEach kws env)).any (·.1.isNone) = false) :
    wpAny M A (callWith pos (.type T) [] (backTo pos (starEach (e :: rest) env)) (backToKw pos (keywordEach kws env))) Q E s := by
  have a : wpAny M A (evalArgs (.type T) true (backTo pos (starEach (e :: rest) env)) (backToKw pos (keywordEach kws env))) (fun a s1 => wpAny M A (call (.type T) ([] ++ a.pos) a.kw) Q E s1) E s := by
    rw [he] at h ⊢
    exact PyProof.Rows.evalArgs_kwB h2 h
  unfold callWith
  refine wpAny_bind (wpAny_holding (wpAny_mono a (fun a s1 q => wpAny_bind (wpAny_standAt ?_)) fun _ _ x => x))
  simp only [h1, h3, Bool.or_false]
  refine wpAny_bind (wpAny_pure (wpAny_bind (wpAny_mono q (fun r s2 hr => ?_) fun _ _ x => x)))
  exact wpAny_bind (wpAny_holding (wpAny_point (wpAny_pure hr)))
theorem sep_zs {n a b : Nat} (ha : a < n) (hb : b < n) : ZipSep2 (n + 4) (n + 2) (n + 3) n (n + 1) [n, a] [n + 1, b] := by
  refine ⟨?_, ?_, ?_, ?_, ?_, ?_, ?_, ?_, ?_, ?_, ?_, ?_, ?_⟩ <;> (try simp only [List.mem_cons, List.not_mem_nil, or_false, not_or, ne_eq]) <;> (try unfold Addr at *) <;> (first | omega | exact .inl rfl | exact .inl trivial)
def iZs (K : PySem.W.Frag) (t1 t2 : Bool) (ta : TA) : TI := fun σ H R => ta σ H fun vs H1 => ∃ a b xs ys, vs = [.ref a, .ref b] ∧ SqB K t1 H1 a xs ∧ SqB K t2 H1 b ys ∧ R (Itzs K t1 t2 a b) H1
theorem pi_zs {X : Cx} {e : Expr} {es : List Expr} {ta : TA} {p pos tpos : Pos} {kws : List Keyword} {elts : List Expr} {kk : Nat} (t1 t2 : Bool) (hg : Gl X "zip") (hm : X.mg "zip" = none) (ha : PA X (e :: es) ta) (hk : PK X kws (tCons (tC (.bl true)) tNil))
    (he : backTo pos (starEach (e :: es) X.env) = (false, eval e X.env) :: backTo pos (starEach es X.env) := by rfl) (hpl : (backTo pos (starEach (e :: es) X.env)).any (·.1) = false := by rfl)
    (hks : (backToKw pos (keywordEach kws X.env)).filterMap (·.1) = [Str.ofString "strict"] := by rfl)
    (hall : (backToKw pos (keywordEach kws X.env)).all (·.1.isSome) = true := by rfl) (hnone : (backToKw pos (keywordEach kws X.env)).any (·.1.isNone) = false := by rfl) :
    PI X (.Tuple elts kk tpos) (.Call (.Name "zip" p) (e :: es) kws pos) (iZs X.K t1 t2 ta) := by
  refine ⟨fun pins s σ H R I h => ?_⟩
  refine wpAny_Call_Name_kw (ld_blt I hg hm PyProof.Rows.boot_zip ?_)
  refine callTy_kw (thn (ha.run pos pins s σ H _ I h) fun us s1 h1 => ?_) he hpl hall hnone
  obtain ⟨vs, H1, I1, r1, q1⟩ := h1
  refine thn (hk.run pos pins s1 σ H1 (fun zs H2 => zs = [.bl true] ∧ H2 = H1) I1 ⟨rfl, rfl⟩) fun ws s2 h2 => ?_
  obtain ⟨zs, H2, I2, r2, ez, eh⟩ := h2
  subst ez
  subst eh
  obtain ⟨a, b, xs, ys, rfl, hqx, hqy, q⟩ := q1
  have ew : ws = [.bool true] := by
    cases r2 with
    | cons r rr =>
      cases rr
      rw [show _ = Value.bool true from r]
  obtain ⟨u1, u2, rfl, ra, rb⟩ := vals2 r1
  cases (show u1 = Value.ref a from ra)
  cases (show u2 = Value.ref b from rb)
  rw [hks, ew]
  obtain ⟨its, rv, p1, la⟩ := sqB_inv I2 hqx
  obtain ⟨its2, rv2, p2, lb⟩ := sqB_inv I2 hqy
  refine callType_newKw F.called_zip (by decide) (typeCall_zs _ _) (newCall_zs _ _) (fun obj => init_zs obj _ _) F.entry_zip_new (meets_zs (beginsB t1 a its.toArray) (beginsB t2 b its2.toArray)) ⟨⟨p1, p2⟩, ?_⟩
  have z1 : (s2.heap.push (oB t1 a)).objs.size = s2.heap.objs.size + 1 := by rw [Heap.size_push]
  have z2 : ((s2.heap.push (oB t1 a)).push (oB t2 b)).objs.size = s2.heap.objs.size + 2 := by rw [Heap.size_push, z1]
  have zT : (gzT2 s2.heap (oB t1 a) (oB t2 b)).objs.size = s2.heap.objs.size + 3 := by rw [Heap.size_push, z2]
  have zO : (gzO2 s2.heap (oB t1 a) (oB t2 b)).objs.size = s2.heap.objs.size + 4 := by rw [Heap.size_push, zT]
  have f1 := (beginsB t1 a its.toArray).free
  have f2 := (beginsB t2 b its2.toArray).free
  have gZ : (zsZ s2.heap (oB t1 a) (oB t2 b)).get? (gzO2 s2.heap (oB t1 a) (oB t2 b)).objs.size = some _ := Heap.get?_push_size _ rfl
  have gO : (zsZ s2.heap (oB t1 a) (oB t2 b)).get? (gzT2 s2.heap (oB t1 a) (oB t2 b)).objs.size = some _ := Heap.get?_push_of_some _ (Heap.get?_push_size _ rfl)
  have gT : (zsZ s2.heap (oB t1 a) (oB t2 b)).get? ((s2.heap.push (oB t1 a)).push (oB t2 b)).objs.size = some _ := Heap.get?_push_of_some _ (Heap.get?_push_of_some _ (Heap.get?_push_size _ rfl))
  have g1 : (zsZ s2.heap (oB t1 a) (oB t2 b)).get? s2.heap.objs.size = some (oB t1 a) := Heap.get?_push_of_some _ (Heap.get?_push_of_some _ (Heap.get?_push_of_some _ (Heap.get?_push_of_some _ (Heap.get?_push_size _ f1))))
  have g2 : (zsZ s2.heap (oB t1 a) (oB t2 b)).get? (s2.heap.push (oB t1 a)).objs.size = some (oB t2 b) := Heap.get?_push_of_some _ (Heap.get?_push_of_some _ (Heap.get?_push_of_some _ (Heap.get?_push_size _ f2)))
  have keep : ∀ c o, s2.heap.get? c = some o → (zsZ s2.heap (oB t1 a) (oB t2 b)).get? c = some o := fun c o e => Heap.get?_push_of_some _ (Heap.get?_push_of_some _ (Heap.get?_push_of_some _ (Heap.get?_push_of_some _ (Heap.get?_push_of_some _ e))))
  rw [zO, zT, z2] at gZ
  rw [zT] at gO
  rw [z2, z1] at gT
  rw [z1] at g2
  generalize zsZ s2.heap (oB t1 a) (oB t2 b) = h' at gZ gO gT g1 g2 keep
  show _ ∧ _
  rw [zO]
  refine ⟨⟨_, gZ, rfl⟩, zs_iter gZ ?_⟩
  have I3 : Inv X pins σ H2 { s2 with heap := h' } := I2.kept (t' := s2.toks) keep
  refine ⟨s2.heap.objs.size + 4, [s2.heap.objs.size + 4, s2.heap.objs.size + 2, s2.heap.objs.size + 3, s2.heap.objs.size, s2.heap.objs.size + 1], _, _, H2, rfl, I3, turn_zs t1 t2 (sep_zs la lb) (Nat.ne_of_lt la) (Nat.ne_of_lt (Nat.lt_succ_of_lt lb)), ⟨gZ, gT, ⟨_, _, gO⟩, oB_it t1 g1, oB_it t2 g2⟩, fun c hcm => ?_, q⟩
  have e' : c = s2.heap.objs.size + 4 ∨ c = s2.heap.objs.size + 2 ∨ c = s2.heap.objs.size + 3 ∨ c = s2.heap.objs.size ∨ c = s2.heap.objs.size + 1 := by simpa using hcm
  have hle : s2.heap.objs.size ≤ c := by
    rcases e' with z | z | z | z | z
    · rw [z]; exact Nat.le_add_right _ _
    · rw [z]; exact Nat.le_add_right _ _
    · rw [z]; exact Nat.le_add_right _ _
    · rw [z]; exact Nat.le_refl _
    · rw [z]; exact Nat.le_add_right _ _
  exact I2.fpOk hle (I2.hok.fresh hle)
end My

set_option Elab.async false
set_option linter.all false
set_option maxRecDepth 100000
set_option maxHeartbeats 1000000
/-! loops and comprehensions over ranges with a step; two clauses. -/
namespace My
open PySem PySem.Spec PyProof.Rows L2 Evl
theorem rgC_up {n c : Nat} (hn : n < 2 ^ 60) (hc : 0 < c) (hc2 : c < 1073741824) : RgC 0 (n : Int) (c : Int) ((n + c - 1) / c) := by
  have e : Builtin.Range.rangeSize 0 (n : Int) (c : Int) = (((n + c - 1) / c : Nat) : Int) := by
    unfold Builtin.Range.rangeSize
    rw [if_pos (by omega)]
    by_cases h : 0 < n
    · rw [if_pos (by omega), show (n : Int) - 0 - 1 = ((n - 1 : Nat) : Int) by omega, ← Int.natCast_ediv, show n + c - 1 = (n - 1) + c by omega, Nat.add_div_right _ hc]
      rfl
    · rw [if_neg (by omega), show n = 0 by omega, Nat.zero_add, Nat.div_eq_of_lt (by omega)]
      rfl
  refine ⟨by omega, by omega, ?_, e⟩
  unfold Builtin.Range.small
  rw [e]
  have b : (n + c - 1) / c ≤ n := by
    by_cases h : 0 < n
    · rw [show n + c - 1 = (n - 1) + c by omega, Nat.add_div_right _ hc]
      have := Nat.div_le_self (n - 1) c
      omega
    · rw [show n = 0 by omega, Nat.zero_add, Nat.div_eq_of_lt (by omega)]
      exact Nat.le_refl _
  have m : (n + c - 1) / c * c ≤ n + c - 1 := Nat.div_mul_le_self _ _
  generalize (n + c - 1) / c = d at b m
  have m2 : (d : Int) * (c : Int) ≤ (n : Int) + (c : Int) - 1 := by
    rw [← Int.natCast_mul]
    omega
  simp only [Builtin.Range.rangeFitsLong, Bool.and_eq_true, Bool.or_eq_true, decide_eq_true_eq, beq_iff_eq]
  refine ⟨⟨⟨⟨⟨by omega, by omega⟩, by omega, by omega⟩, by omega, by omega⟩, by omega, by omega⟩, .inr ?_⟩
  rw [if_pos (by omega), Bool.and_eq_true, decide_eq_true_eq, decide_eq_true_eq]
  exact ⟨by omega, by omega⟩
section
variable {K : PySem.W.Frag} {σ : L2.St} {H H' : Hp} {ta : TA} {tb te tl : TE} {xs ys : List V} {x z v : V} {p : Addr} {D : Ends} {tu tz : TS} {g : TG}
theorem s_forR3 {j n : Nat} {lo hi c : Int} (h : EvA ta σ H [.int lo, .int hi, .int c]) (hn : RgC lo hi c n) (Pv : Nat → L2.St → Hp → Prop) (h0 : ∀ H1, Ex H H1 → Pv 0 σ H1)
    (hs : ∀ (i : Nat) σ' H', i < n → Pv i σ' H' → tu { D with nx := Pv (i + 1), ct := Pv (i + 1), bk := D.nx } (σ'.set j (some (.int (lo + (i : Nat) * c)))) H') (hd : ∀ σ' H', Pv n σ' H' → D.nx σ' H') : tFor (iRng3 ta) (gName j) tu D σ H :=
  h H (Ex.refl H) _ fun H1 e => ⟨lo, hi, c, n, rfl, hn, for_rangeC Pv (h0 H1 e) (fun i σ' H' hi p => hs i σ' H' hi p) hd⟩
theorem q_forR3 {j n : Nat} {lo hi c : Int} (h : EvA ta σ H [.int lo, .int hi, .int c]) (hn : RgC lo hi c n) (Pv : Nat → L2.St → Hp → Prop) (h0 : ∀ H1, Ex H H1 → Pv 0 σ H1)
    (hs : ∀ (i : Nat) σ' H', i < n → Pv i σ' H' → tu { D with nx := Pv (i + 1), ct := Pv (i + 1), bk := tz D } (σ'.set j (some (.int (lo + (i : Nat) * c)))) H') (hd : ∀ σ' H', Pv n σ' H' → tz D σ' H') : tSeq (tFor (iRng3 ta) (gName j) tu) tz D σ H :=
  s_forR3 (D := { D with nx := tz D }) h hn Pv h0 hs hd
theorem tyes_ {F : Bool → Hp → Prop} (h : F true H) : tYes σ H F := h
/-- a comprehension over a range with a step, no test -/
theorem el_lcR3 {j n : Nat} {vs : List Nat} {lo hi c : Int} (v : Nat → V) (h : EvA ta σ H [.int lo, .int hi, .int c]) (hn : RgC lo hi c n) (hz : n ≤ 40000) (hw : ∀ x, wipe ((wipe σ vs).set j (some x)) vs = wipe σ vs)
    (he : ∀ (i : Nat) H1, Ex H H1 → i < n → Ev te ((wipe σ vs).set j (some (.int (lo + (i : Nat) * c)))) H1 (v i)) : EvL (tLc (iRng3 ta) (gName j) tYes te vs) σ H ((List.range n).map v) := by
  intro H0 e Q q
  refine h H0 e _ fun H1 e1 => ⟨lo, hi, c, n, rfl, hn, fun Dl hD => ?_⟩
  refine ⟨fun i m H' => m = n - i ∧ i ≤ n ∧ Ex H1 H' ∧ H' Dl = some (.lst ((List.range i).map v)), ⟨n, rfl, Nat.zero_le _, Ex.new hD, upd_same⟩, ?_⟩
  rintro i m H' ⟨rfl, hi, ex, hl⟩
  by_cases hlt : i < n
  · refine .inr ⟨hlt, fun H' => Ex H1 H' ∧ H' Dl = some (.lst ((List.range (i + 1)).map v)), fun H2 p => ⟨n - (i + 1), by omega, rfl, hlt, p⟩, fun x H2 y => ?_⟩
    obtain ⟨rfl, rfl⟩ := y
    refine ⟨hw _, ?_⟩
    refine tyes_ ?_
    refine iteT (he i H1 (e.trans e1) hlt H2 ex _ fun H3 e3 => ⟨_, e3 Dl _ hl, sz_lt (by rw [List.length_map, List.length_range]; omega), (ex.trans e3).mut hD, ?_⟩)
    rw [upd_same, List.range_succ, List.map_append]
    rfl
  · have e0 : i = n := by omega
    subst e0
    exact .inl ⟨Nat.le_refl _, q Dl H' (fresh_back e1 hD) (e1.trans ex) hl⟩
/-- the items of two clauses: a list that stands, then a range with a step -/
def flat2 (n : Nat) (v : Nat → Nat → V) : Nat → List V
  | 0 => []
  | i + 1 => flat2 n v i ++ (List.range n).map (v i)
theorem flat2_len (n : Nat) (v : Nat → Nat → V) : ∀ i, (flat2 n v i).length = i * n
  | 0 => by simp [flat2]
  | i + 1 => by rw [flat2, List.length_append, flat2_len n v i, List.length_map, List.length_range, Nat.succ_mul]
theorem el_lc2 {a : Addr} {j1 j2 n : Nat} {vs vs1 : List Nat} {lo hi c : Int} (v : Nat → Nat → V) (h : Ev tl σ H (.ref a)) (hx : SqL K H a xs) (hn : RgC lo hi c n) (hz : xs.length * n ≤ 40000)
    (hw : ∀ x, wipe ((wipe σ vs).set j1 (some x)) vs = wipe σ vs) (hw1 : ∀ x y, wipe ((wipe ((wipe σ vs).set j1 (some x)) vs1).set j2 (some y)) vs1 = wipe ((wipe σ vs).set j1 (some x)) vs1)
    (ha : ∀ (i : Nat) (x : V) H1, Ex H H1 → xs[i]? = some x → EvA ta ((wipe σ vs).set j1 (some x)) H1 [.int lo, .int hi, .int c])
    (he : ∀ (i k : Nat) (x : V) H1, Ex H H1 → xs[i]? = some x → k < n → Ev te ((wipe ((wipe σ vs).set j1 (some x)) vs1).set j2 (some (.int (lo + (k : Nat) * c)))) H1 (v i k)) :
    EvL (tLc2 (iList K tl) (gName j1) tYes (iRng3 ta) (gName j2) tYes te vs vs1) σ H (flat2 n v xs.length) := by
  intro H0 e Q q
  refine h H0 e _ fun H1 e1 => ⟨a, rfl, ⟨xs, ex_l (e.trans e1) hx⟩, fun Dl hD => ?_⟩
  have E1 := e.trans e1
  refine ⟨fun i m H' => m = xs.length - i ∧ i ≤ xs.length ∧ Ex H1 H' ∧ H' Dl = some (.lst (flat2 n v i)), ⟨xs.length, rfl, Nat.zero_le _, Ex.new hD, upd_same⟩, ?_⟩
  rintro i m H' ⟨rfl, hi, ex, hl⟩
  by_cases hlt : i < xs.length
  · have gx : xs[i]? = some xs[i] := List.getElem?_eq_getElem hlt
    refine .inr ⟨⟨xs, xs[i], ex_l (E1.trans ex) hx, gx⟩, fun H' => Ex H1 H' ∧ H' Dl = some (.lst (flat2 n v (i + 1))), fun H2 p => ⟨xs.length - (i + 1), by omega, rfl, hlt, p⟩, fun x H2 y => ?_⟩
    obtain ⟨rfl, y⟩ := y
    have ex' : x = xs[i] := Option.some.inj ((y xs (ex_l (E1.trans ex) hx)).symm.trans gx)
    subst ex'
    refine ⟨hw _, ?_⟩
    refine tyes_ ?_
    refine iteT (ha i _ H1 E1 gx H2 ex _ fun H3 e3 => ⟨lo, _, c, n, rfl, hn, ?_⟩)
    refine ⟨fun k m H' => m = n - k ∧ k ≤ n ∧ Ex H1 H' ∧ H' Dl = some (.lst (flat2 n v i ++ (List.range k).map (v i))), ⟨n, rfl, Nat.zero_le _, ex.trans e3, by rw [List.range_zero, List.map_nil, List.append_nil]; exact e3 Dl _ hl⟩, ?_⟩
    rintro k m H4 ⟨rfl, hk, ex4, hl4⟩
    by_cases hkn : k < n
    · refine .inr ⟨hkn, fun H' => Ex H1 H' ∧ H' Dl = some (.lst (flat2 n v i ++ (List.range (k + 1)).map (v i))), fun H5 p => ⟨n - (k + 1), by omega, rfl, hkn, p⟩, fun x H5 y => ?_⟩
      obtain ⟨rfl, rfl⟩ := y
      refine ⟨hw1 _ _, ?_⟩
      refine tyes_ ?_
      refine iteT (he i k _ H1 E1 gx hkn H5 ex4 _ fun H6 e6 => ⟨_, e6 Dl _ hl4, sz_lt ?_, (ex4.trans e6).mut hD, ?_⟩)
      · rw [List.length_append, flat2_len, List.length_map, List.length_range]
        have : (i + 1) * n ≤ xs.length * n := Nat.mul_le_mul_right _ hlt
        rw [Nat.succ_mul] at this
        omega
      · rw [upd_same, List.range_succ, List.map_append, List.append_assoc]
        rfl
    · have e0 : k = n := by omega
      subst e0
      exact .inl ⟨Nat.le_refl _, ex4, hl4⟩
  · have e0 : i = xs.length := by omega
    subst e0
    exact .inl ⟨⟨xs, ex_l (E1.trans ex) hx, Nat.le_refl _⟩, q Dl H' (fresh_back e1 hD) (e1.trans ex) hl⟩
/-- ''.join of one-sign texts -/
theorem join_ones (l : List Nat) : Txt.join (tx []) (l.map fun c => tx [c]) = tx l := by
  show Builtin.Str.glued _ _ = _
  rw [StrLaws.glued_eq_join]
  have h : ∀ l : List Nat, Str.join (tx []) (l.map fun c => tx [c]) = tx l := by
    intro l
    induction l with
    | nil => rfl
    | cons c r ih =>
      cases r with
      | nil => rfl
      | cons d r =>
        show tx [c] ++ tx [] ++ Str.join (tx []) ((d :: r).map fun c => tx [c]) = _
        rw [ih, tx_app, tx_app]
        rfl
  exact h l
end

/-! ### zip of two, strict -/
def EvZ (K : PySem.W.Frag) (ta : TA) (σ : L2.St) (H : Hp) (t1 t2 : Bool) (xs ys : List V) : Prop := ∀ H1, Ex H H1 → ∀ Q : List V → Hp → Prop, (∀ a b H2, Ex H1 H2 → SqB K t1 H2 a xs → SqB K t2 H2 b ys → Q [.ref a, .ref b] H2) → ta σ H1 Q
section
variable {K : PySem.W.Frag} {σ : L2.St} {H H' : Hp} {ta : TA} {ta1 tb1 te tl : TE} {xs ys : List V} {x z v : V} {p : Addr} {D : Ends} {tu tz : TS} {g : TG} {t1 t2 : Bool}
theorem ex_b {a : Addr} (e : Ex H H') (h : SqB K t1 H a xs) : SqB K t1 H' a xs := by
  cases t1
  · exact ex_l e h
  · exact ex_t e h
theorem ez_gt (h2 : Ev tb1 σ H (.ref p)) (hp : SqL K H p ys) : EvZ K (tCons (tGT K xs) (tCons tb1 tNil)) σ H true false xs ys := fun H1 e Q q =>
  fun a ha => h2 H1 e _ fun H2 e2 => q a p H2 e2 (ha H2) (ex_l (e.trans e2) hp)
theorem ez_vn (h1 : Ev ta1 σ H (.ref p)) (hp : SqL K H p xs) (h2 : EvL tb1 σ H ys) : EvZ K (tCons ta1 (tCons tb1 tNil)) σ H false false xs ys := fun H1 e Q q =>
  h1 H1 e _ fun H2 e2 => h2 H2 (e.trans e2) _ fun b H3 _ e3 hb => q p b H3 (e2.trans e3) (ex_l ((e.trans e2).trans e3) hp) (sq_of hb)
theorem s_forZ {j1 j2 : Nat} (h : EvZ K ta σ H t1 t2 xs ys) (hl : xs.length = ys.length) (Pv : Hp → Nat → L2.St → Hp → Prop) (h0 : ∀ H1, Ex H H1 → Pv H1 0 σ H1) (hk : ∀ H1 i σ' H', Pv H1 i σ' H' → Ex H1 H')
    (hs : ∀ H1 i x y σ' H', Ex H H1 → xs[i]? = some x → ys[i]? = some y → Pv H1 i σ' H' → ∀ H2, Ex H' H2 → tu { D with nx := Pv H1 (i + 1), ct := Pv H1 (i + 1), bk := D.nx } ((σ'.set j1 (some x)).set j2 (some y)) H2)
    (hd : ∀ H1 σ' H', Ex H H1 → Pv H1 xs.length σ' H' → D.nx σ' H') : tFor (iZs K t1 t2 ta) (gTup K 2 (gCons (gName j1) (gCons (gName j2) gNil))) tu D σ H := by
  refine h H (Ex.refl H) _ fun a b H1 e ha hb => ⟨a, b, xs, ys, rfl, ha, hb, ?_⟩
  refine ⟨fun i m σ' H' => m = xs.length - i ∧ i ≤ xs.length ∧ Pv H1 i σ' H', ⟨xs.length, rfl, Nat.zero_le _, h0 H1 e⟩, ?_⟩
  rintro i m σ' H' ⟨rfl, hi, p⟩
  have ex := hk H1 i σ' H' p
  by_cases hlt : i < xs.length
  · have gx : xs[i]? = some xs[i] := List.getElem?_eq_getElem hlt
    have hlt2 : i < ys.length := by omega
    have gy : ys[i]? = some ys[i] := List.getElem?_eq_getElem hlt2
    refine .inr ⟨⟨xs, ys, _, _, ex_b ex ha, ex_b ex hb, hl, gx, gy⟩, Pv H1 (i + 1), fun σ2 H2 p2 => ⟨xs.length - (i + 1), by omega, rfl, hlt, p2⟩, fun v H2 y => ?_⟩
    obtain ⟨T, x', y', rfl, hT, rfl, f1, f2⟩ := y
    exact ⟨T, [x', y'], rfl, st_of upd_same, rfl, x', [y'], rfl, y', [], rfl, rfl, hs H1 i x' y' σ' H' e (f1 xs (ex_b ex ha)) (f2 ys (ex_b ex hb)) p _ (Ex.new hT)⟩
  · have e0 : i = xs.length := by omega
    subst e0
    exact .inl ⟨⟨xs, ys, ex_b ex ha, ex_b ex hb, rfl, hl.symm⟩, hd H1 σ' H' e p⟩
theorem q_forZ {j1 j2 : Nat} (h : EvZ K ta σ H t1 t2 xs ys) (hl : xs.length = ys.length) (Pv : Hp → Nat → L2.St → Hp → Prop) (h0 : ∀ H1, Ex H H1 → Pv H1 0 σ H1) (hk : ∀ H1 i σ' H', Pv H1 i σ' H' → Ex H1 H')
    (hs : ∀ H1 i x y σ' H', Ex H H1 → xs[i]? = some x → ys[i]? = some y → Pv H1 i σ' H' → ∀ H2, Ex H' H2 → tu { D with nx := Pv H1 (i + 1), ct := Pv H1 (i + 1), bk := tz D } ((σ'.set j1 (some x)).set j2 (some y)) H2)
    (hd : ∀ H1 σ' H', Ex H H1 → Pv H1 xs.length σ' H' → tz D σ' H') : tSeq (tFor (iZs K t1 t2 ta) (gTup K 2 (gCons (gName j1) (gCons (gName j2) gNil))) tu) tz D σ H :=
  s_forZ (D := { D with nx := tz D }) h hl Pv h0 hk hs hd
theorem el_lcZ {j1 j2 : Nat} {vs : List Nat} (v : Nat → V) (h : EvZ K ta σ H t1 t2 xs ys) (hl : xs.length = ys.length) (hz : xs.length ≤ 40000) (hw : ∀ x y, wipe (((wipe σ vs).set j1 (some x)).set j2 (some y)) vs = wipe σ vs)
    (he : ∀ (i : Nat) (x y : V) H1, Ex H H1 → xs[i]? = some x → ys[i]? = some y → Ev te (((wipe σ vs).set j1 (some x)).set j2 (some y)) H1 (v i)) :
    EvL (tLc (iZs K t1 t2 ta) (gTup K 2 (gCons (gName j1) (gCons (gName j2) gNil))) tYes te vs) σ H ((List.range xs.length).map v) := by
  intro H0 e Q q
  refine h H0 e _ fun a b H1 e1 ha hb => ⟨a, b, xs, ys, rfl, ha, hb, fun Dl hD => ?_⟩
  refine ⟨fun i m H' => m = xs.length - i ∧ i ≤ xs.length ∧ Ex H1 H' ∧ H' Dl = some (.lst ((List.range i).map v)), ⟨xs.length, rfl, Nat.zero_le _, Ex.new hD, upd_same⟩, ?_⟩
  rintro i m H' ⟨rfl, hi, ex, hll⟩
  by_cases hlt : i < xs.length
  · have gx : xs[i]? = some xs[i] := List.getElem?_eq_getElem hlt
    have hlt2 : i < ys.length := by omega
    have gy : ys[i]? = some ys[i] := List.getElem?_eq_getElem hlt2
    refine .inr ⟨⟨xs, ys, _, _, ex_b ex ha, ex_b ex hb, hl, gx, gy⟩, fun H' => Ex H1 H' ∧ H' Dl = some (.lst ((List.range (i + 1)).map v)), fun H2 p2 => ⟨xs.length - (i + 1), by omega, rfl, hlt, p2⟩, fun v' H2 y => ?_⟩
    obtain ⟨T, x', y', rfl, hT, rfl, f1, f2⟩ := y
    refine ⟨T, [x', y'], rfl, st_of upd_same, rfl, x', [y'], rfl, y', [], rfl, rfl, hw _ _, ?_⟩
    refine tyes_ ?_
    have eT : Ex H1 (upd H' T (.tup [x', y'])) := ex.trans (Ex.new hT)
    refine iteT (he i x' y' H1 (e.trans e1) (f1 xs (ex_b ex ha)) (f2 ys (ex_b ex hb)) _ eT _ fun H3 e3 => ⟨_, e3 Dl _ ((Ex.new hT) Dl _ hll), sz_lt (by rw [List.length_map, List.length_range]; omega), (eT.trans e3).mut hD, ?_⟩)
    rw [upd_same, List.range_succ, List.map_append]
    rfl
  · have e0 : i = xs.length := by omega
    subst e0
    exact .inl ⟨⟨xs, ys, ex_b ex ha, ex_b ex hb, rfl, hl.symm⟩, q Dl H' (fresh_back e1 hD) (e1.trans ex) hll⟩
end
section
variable {K : PySem.W.Frag} {σ : L2.St} {H H' : Hp} {ta : TA} {te : TE} {x y : V} {D : Ends} {tz : TS}
theorem s_par {i j : Nat} (h : EvA ta σ H [x, y]) (k : ∀ H1, Ex H H1 → D.nx ((σ.set i (some x)).set j (some y)) H1) : tPar i j ta D σ H := h H (Ex.refl H) _ fun H1 e => ⟨x, y, rfl, k H1 e⟩
theorem q_par {i j : Nat} (h : EvA ta σ H [x, y]) (k : ∀ H1, Ex H H1 → tz D ((σ.set i (some x)).set j (some y)) H1) : tSeq (tPar i j ta) tz D σ H := s_par (D := { D with nx := tz D }) h k
end
/-! ### several names at once -/
def gNs : List Nat → TGs
  | [] => gNil
  | i :: r => gCons (gName i) (gNs r)
def setN : L2.St → List Nat → List V → L2.St
  | σ, i :: is, v :: vs => setN (σ.set i (some v)) is vs
  | σ, _, _ => σ
theorem gNs_run : ∀ {is : List Nat} {vs : List V} {σ : L2.St} {H : Hp} {Q : L2.St → Hp → Prop}, vs.length = is.length → Q (setN σ is vs) H → gNs is vs σ H Q
  | [], [], _, _, _, _, q => ⟨rfl, q⟩
  | i :: is, v :: vs, σ, H, Q, h, q => ⟨v, vs, rfl, gNs_run (Nat.succ.inj h) q⟩
  | [], _ :: _, _, _, _, h, _ => nomatch h
  | _ :: _, [], _, _, _, h, _ => nomatch h
section
variable {K : PySem.W.Frag} {σ : L2.St} {H H' : Hp} {ta : TA} {te : TE} {vs : List V} {p : Addr} {D : Ends} {tz : TS} {n : Nat}
theorem s_unl (is : List Nat) (h : Ev te σ H (.ref p)) (hS : SqL K H p vs) (hn : vs.length = n) (hl : vs.length = is.length) (k : ∀ H1, Ex H H1 → D.nx (setN σ is vs) H1) : tAsg te (gUnl K n (gNs is)) D σ H :=
  h H (Ex.refl H) _ fun H1 e => ⟨p, vs, rfl, ex_l e hS, hn, gNs_run hl (k H1 e)⟩
theorem q_unl (is : List Nat) (h : Ev te σ H (.ref p)) (hS : SqL K H p vs) (hn : vs.length = n) (hl : vs.length = is.length) (k : ∀ H1, Ex H H1 → tz D (setN σ is vs) H1) : tSeq (tAsg te (gUnl K n (gNs is))) tz D σ H := s_unl (D := { D with nx := tz D }) is h hS hn hl k
theorem s_unt (is : List Nat) (h : Ev te σ H (.ref p)) (hS : SqT K H p vs) (hn : vs.length = n) (hl : vs.length = is.length) (k : ∀ H1, Ex H H1 → D.nx (setN σ is vs) H1) : tAsg te (gTup K n (gNs is)) D σ H :=
  h H (Ex.refl H) _ fun H1 e => ⟨p, vs, rfl, ex_t e hS, hn, gNs_run hl (k H1 e)⟩
theorem s_tupN (is : List Nat) (h : EvU te σ H vs) (hn : vs.length = n) (hl : vs.length = is.length) (k : ∀ H1, Ex H H1 → D.nx (setN σ is vs) H1) : tAsg te (gTup K n (gNs is)) D σ H :=
  h H (Ex.refl H) _ fun p H1 hp e h1 => ⟨p, vs, rfl, st_of h1, hn, gNs_run hl (k H1 e)⟩
theorem q_tupN (is : List Nat) (h : EvU te σ H vs) (hn : vs.length = n) (hl : vs.length = is.length) (k : ∀ H1, Ex H H1 → tz D (setN σ is vs) H1) : tSeq (tAsg te (gTup K n (gNs is))) tz D σ H := s_tupN (D := { D with nx := tz D }) is h hn hl k
theorem ru_inv {i : Int} : RU (rU fun i => .int (Builtin.bitNot i)) (.int i) H (.int (Builtin.bitNot i)) := fun H1 _ _ q => ⟨i, rfl, q H1 (Ex.refl H1)⟩
end
end My

set_option Elab.async false
set_option linter.all false
set_option maxRecDepth 100000
set_option maxHeartbeats 1000000
/-! data, and what a value stands for in a heap. -/
namespace My
open PySem PySem.Spec PyProof.Rows L2 Evl
inductive D where
  | non | bl (b : Bool) | int (i : Int) | str (l : List Nat) | tup (ds : List D) | lst (ds : List D)
mutual
inductive Rep (H : Hp) : V → D → Prop
  | non : Rep H .non .non
  | bl (b : Bool) : Rep H (.bl b) (.bl b)
  | int (i : Int) : Rep H (.int i) (.int i)
  | str (l : List Nat) : Rep H (.str (tx l)) (.str l)
  | tup {a : Addr} {vs : List V} {ds : List D} (e : H a = some (.tup vs)) (r : Reps H vs ds) : Rep H (.ref a) (.tup ds)
  | lst {a : Addr} {vs : List V} {ds : List D} (e : H a = some (.lst vs)) (r : Reps H vs ds) : Rep H (.ref a) (.lst ds)
inductive Reps (H : Hp) : List V → List D → Prop
  | nil : Reps H [] []
  | cons {v : V} {d : D} {vs : List V} {ds : List D} (h : Rep H v d) (r : Reps H vs ds) : Reps H (v :: vs) (d :: ds)
end
mutual
theorem Rep.mono {H H' : Hp} (e : Ex H H') : ∀ {v : V} {d : D}, Rep H v d → Rep H' v d
  | _, _, .non => .non
  | _, _, .bl b => .bl b
  | _, _, .int i => .int i
  | _, _, .str l => .str l
  | _, _, .tup q r => .tup (e _ _ q) (Reps.mono e r)
  | _, _, .lst q r => .lst (e _ _ q) (Reps.mono e r)
theorem Reps.mono {H H' : Hp} (e : Ex H H') : ∀ {vs : List V} {ds : List D}, Reps H vs ds → Reps H' vs ds
  | _, _, .nil => .nil
  | _, _, .cons h r => .cons (Rep.mono e h) (Reps.mono e r)
end
theorem Reps.len {H : Hp} : ∀ {vs : List V} {ds : List D}, Reps H vs ds → vs.length = ds.length
  | _, _, .nil => rfl
  | _, _, .cons _ r => congrArg Nat.succ (Reps.len r)
theorem Reps.get {H : Hp} : ∀ {vs : List V} {ds : List D} {i : Nat} {d : D}, Reps H vs ds → ds[i]? = some d → ∃ v, vs[i]? = some v ∧ Rep H v d
  | _, _, _, _, .nil, h => nomatch h
  | v :: _, _, 0, _, .cons h r, e => ⟨v, rfl, by cases e; exact h⟩
  | _ :: _, _, i + 1, _, .cons h r, e => Reps.get (i := i) r e
theorem Reps.get' {H : Hp} : ∀ {vs : List V} {ds : List D} {i : Nat} {v : V}, Reps H vs ds → vs[i]? = some v → ∃ d, ds[i]? = some d ∧ Rep H v d
  | _, _, _, _, .nil, h => nomatch h
  | v :: _, _, 0, _, .cons (d := d) h r, e => ⟨d, rfl, by cases e; exact h⟩
  | _ :: _, _, i + 1, _, .cons h r, e => Reps.get' (i := i) r e
theorem Reps.append {H : Hp} : ∀ {vs ws : List V} {ds es : List D}, Reps H vs ds → Reps H ws es → Reps H (vs ++ ws) (ds ++ es)
  | _, _, _, _, .nil, r => r
  | _, _, _, _, .cons h t, r => .cons h (Reps.append t r)
def tyD : D → String
  | .non => "NoneType" | .bl _ => "bool" | .int _ => "int" | .str _ => "str" | .tup _ => "tuple" | .lst _ => "list"
theorem Rep.ty {K : PySem.W.Frag} {H : Hp} {v : V} {d : D} (h : Rep H v d) : TyX K H v (.type (tyD d)) := by
  cases h with
  | non => exact .base .non
  | bl b => exact .base (.bl b)
  | int i => exact .base (.int i)
  | str l => exact .base (.str _)
  | tup e _ => exact .base (.tup e)
  | lst e _ => exact .base (.lst e)
def EvD (te : TE) (σ : L2.St) (H : Hp) (d : D) : Prop := EvP te σ H fun v H' => Rep H' v d
section
variable {K : PySem.W.Frag} {σ : L2.St} {H H' : Hp} {ta : TA} {te : TE} {xs ys : List V} {x z v : V} {p : Addr} {E : Ends} {tu tz : TS} {d : D}
theorem evd_v (h : Ev te σ H v) (r : Rep H v d) : EvD te σ H d := fun H1 e Q q => h H1 e Q fun H2 e2 => q v H2 e2 (r.mono (e.trans e2))
theorem ev_isi {T : String} {b : Bool} (h : Ev te σ H v) (r : Rep H v d) (hk : kitB (tyD d) T = some b) : Ev (tCB (rIsi K) (tCons te (tCons (tC (.ty T)) tNil))) σ H (.bl b) := fun H1 e Q q =>
  h H1 e _ fun H2 e2 => ⟨v, .ty T, .type (tyD d), .type T, b, rfl, .ty T, (r.mono (e.trans e2)).ty, kit_ty hk, q H2 e2⟩
theorem et_isN {te : TE} (h : Ev te σ H v) : EvT (tTest (tOp (fun x y H Q => y = .non ∧ Q (.bl (decide (x = .non))) H) te (tC .non))) σ H (decide (v = .non)) := fun H1 e Q q =>
  h H1 e _ fun H2 e2 => ⟨rfl, _, rfl, q H2 e2⟩
/-- xs.extend(a new list) -/
theorem s_extL {l : Addr} (hl : H l = some (.lst xs)) (ha : ∀ H1, Ex H H1 → Ev te σ H1 (.ref l)) {tb : TE} (h : EvL tb σ H ys) (hz : xs.length + ys.length ≤ 100000) (k : ∀ H1, Ex H H1 → E.nx σ (upd H1 l (.lst (xs ++ ys)))) :
    tDrop (tBM K "list" rExtend te (tCons tb tNil)) E σ H := ha H (Ex.refl H) H (Ex.refl H) _ fun H1 e1 =>
  ⟨Or.inl ⟨rfl, xs, sq_of (e1 l _ hl)⟩, h H1 e1 _ fun p H2 hp e2 h2 => ⟨l, p, xs, ys, rfl, rfl, e2 l _ (e1 l _ hl), h2, sz_of hz, k H2 (e1.trans e2)⟩⟩
/-- a loop over a text's signs -/
theorem for_str {x : Str} {g : TG} {tb : TS} {D : Ends} {σ : L2.St} {H : Hp} (Pv : Nat → L2.St → Hp → Prop) (h0 : Pv 0 σ H)
    (hs : ∀ i c σ H, x.cps[i]? = some c → Pv i σ H → g (.str (tx [c])) σ H fun σ2 H2 => tb { D with nx := Pv (i + 1), ct := Pv (i + 1), bk := D.nx } σ2 H2) (hd : ∀ σ H, Pv x.cps.size σ H → D.nx σ H) :
    ∃ W : Nat → Nat → L2.St → Hp → Prop, (∃ m, W 0 m σ H) ∧ ∀ i m σ H, W i m σ H →
      ((Its x).stop i H ∧ D.nx σ H) ∨ ((Its x).go i H ∧ ∃ N : L2.St → Hp → Prop, (∀ σ' H', N σ' H' → ∃ m', m' < m ∧ W (i + 1) m' σ' H') ∧ ∀ v H', (Its x).yld i H v H' → g v σ H' fun σ2 H2 => tb { D with nx := N, ct := N, bk := D.nx } σ2 H2) := by
  refine ⟨fun i m σ H => m = x.cps.size - i ∧ i ≤ x.cps.size ∧ Pv i σ H, ⟨x.cps.size, rfl, Nat.zero_le _, h0⟩, ?_⟩
  rintro i m σ H ⟨rfl, hi, p⟩
  by_cases hlt : i < x.cps.size
  · refine .inr ⟨hlt, Pv (i + 1), fun σ' H' p' => ⟨x.cps.size - (i + 1), by omega, rfl, hlt, p'⟩, fun v H' y => ?_⟩
    obtain ⟨rfl, c, hc, rfl⟩ := y
    exact hs i c σ _ hc p
  · have e : i = x.cps.size := by omega
    subst e
    exact .inl ⟨Nat.le_refl _, hd σ H p⟩
theorem s_forS {l : List Nat} {j : Nat} (h : Ev te σ H (.str (tx l))) (Pv : Nat → L2.St → Hp → Prop) (h0 : ∀ H1, Ex H H1 → Pv 0 σ H1)
    (hs : ∀ i c σ' H', l[i]? = some c → Pv i σ' H' → tu { E with nx := Pv (i + 1), ct := Pv (i + 1), bk := E.nx } (σ'.set j (some (.str (tx [c])))) H') (hd : ∀ σ' H', Pv l.length σ' H' → E.nx σ' H') : tFor (iStr te) (gName j) tu E σ H :=
  h H (Ex.refl H) _ fun H1 e => ⟨tx l, rfl, for_str Pv (h0 H1 e) (fun i c σ' H' hc p => hs i c σ' H' (by simpa [tx] using hc) p) (fun σ' H' p => hd σ' H' (by simpa [tx] using p))⟩
theorem q_forS {l : List Nat} {j : Nat} (h : Ev te σ H (.str (tx l))) (Pv : Nat → L2.St → Hp → Prop) (h0 : ∀ H1, Ex H H1 → Pv 0 σ H1)
    (hs : ∀ i c σ' H', l[i]? = some c → Pv i σ' H' → tu { E with nx := Pv (i + 1), ct := Pv (i + 1), bk := tz E } (σ'.set j (some (.str (tx [c])))) H') (hd : ∀ σ' H', Pv l.length σ' H' → tz E σ' H') : tSeq (tFor (iStr te) (gName j) tu) tz E σ H :=
  s_forS (E := { E with nx := tz E }) h Pv h0 hs hd
end
/-! ### octets of data -/
def sev (n : Nat) : List Nat := if h : n < 128 then [n] else (128 + n % 128) :: sev (n / 128)
termination_by n
decreasing_by omega
theorem sev_lt {n : Nat} (h : n < 128) : sev n = [n] := by rw [sev, dif_pos h]
theorem sev_ge {n : Nat} (h : ¬ n < 128) : sev n = (128 + n % 128) :: sev (n / 128) := by rw [sev, dif_neg h]
theorem sev_len (k : Nat) : ∀ n, n < 128 ^ (k + 1) → (sev n).length ≤ k + 1 := by
  induction k with
  | zero => intro n h; rw [sev_lt (by simpa using h)]; exact Nat.le_refl _
  | succ k ih =>
    intro n h
    by_cases h1 : n < 128
    · rw [sev_lt h1]; simp
    · rw [sev_ge h1, List.length_cons]
      have := ih (n / 128) (by rw [Nat.div_lt_iff_lt_mul (by decide), ← Nat.pow_succ]; exact h)
      omega
theorem sev_oct : ∀ n, ∀ x ∈ sev n, x < 256 := by
  intro n
  induction n using Nat.strongRecOn with
  | _ n ih =>
    intro x hx
    by_cases h1 : n < 128
    · rw [sev_lt h1, List.mem_singleton] at hx
      omega
    · rw [sev_ge h1, List.mem_cons] at hx
      rcases hx with rfl | hx
      · omega
      · exact ih (n / 128) (by omega) x hx
/-- the place of a sign in the row of signs -/
def sgns : List Nat := (List.range 95).map (· + 32) |>.filter (fun c => c != 37) |>.append [10]
def sgn (c : Nat) : Nat := if c = 10 then 94 else if c < 37 then c - 32 else c - 33
mutual
def octs : D → List Nat
  | .non => [0]
  | .bl b => [if b then 2 else 1]
  | .int i => if 0 ≤ i then 3 :: sev i.toNat else 4 :: sev (-i - 1).toNat
  | .str l => 5 :: (sev l.length ++ l.map sgn)
  | .tup ds => 6 :: (sev ds.length ++ octsL ds)
  | .lst _ => []
def octsL : List D → List Nat
  | [] => []
  | d :: ds => octs d ++ octsL ds
end
mutual
def height : D → Nat
  | .tup ds => heightL ds + 1
  | .lst ds => heightL ds + 1
  | _ => 0
def heightL : List D → Nat
  | [] => 0
  | d :: ds => max (height d) (heightL ds)
end
mutual
/-- a plain value, of a size -/
def Pln : D → Prop
  | .non => True
  | .bl _ => True
  | .int i => i.natAbs < 2 ^ 64
  | .str l => l.length ≤ 1000 ∧ ∀ c ∈ l, c ∈ sgns
  | .tup ds => ds.length ≤ 1000 ∧ PlnL ds
  | .lst _ => False
def PlnL : List D → Prop
  | [] => True
  | d :: ds => Pln d ∧ PlnL ds
end
theorem octsL_app : ∀ a b : List D, octsL (a ++ b) = octsL a ++ octsL b
  | [], _ => by simp [octsL]
  | d :: a, b => by rw [List.cons_append, octsL, octsL, octsL_app a b, List.append_assoc]
theorem octsL_take {ds : List D} {i : Nat} {d : D} (h : ds[i]? = some d) : octsL (ds.take (i + 1)) = octsL (ds.take i) ++ octs d := by
  rw [List.take_add_one, h, octsL_app]
  simp [octsL]
theorem heightL_get : ∀ {ds : List D} {i : Nat} {d : D}, ds[i]? = some d → height d ≤ heightL ds
  | [], _, _, h => nomatch h
  | d :: ds, 0, _, h => by cases h; rw [heightL]; exact Nat.le_max_left _ _
  | d :: ds, i + 1, _, h => by rw [heightL]; exact Nat.le_trans (heightL_get (ds := ds) (i := i) h) (Nat.le_max_right _ _)
theorem PlnL_get : ∀ {ds : List D} {i : Nat} {d : D}, PlnL ds → ds[i]? = some d → Pln d
  | [], _, _, _, h => nomatch h
  | d :: ds, 0, _, p, h => by cases h; rw [PlnL] at p; exact p.1
  | d :: ds, i + 1, _, p, h => by rw [PlnL] at p; exact PlnL_get (ds := ds) (i := i) p.2 h
theorem octsL_part : ∀ {ds : List D} {i : Nat} {d : D}, ds[i]? = some d → (octsL (ds.take i)).length + (octs d).length ≤ (octsL ds).length
  | [], _, _, h => nomatch h
  | d :: ds, 0, _, h => by cases h; rw [List.take_zero, octsL, octsL, List.length_append, List.length_nil]; omega
  | d :: ds, i + 1, _, h => by
    rw [List.take_succ_cons, octsL, octsL, List.length_append, List.length_append]
    have := octsL_part (ds := ds) (i := i) h
    omega
theorem sgn_lt {c : Nat} (h : c ∈ sgns) : sgn c < 95 := by
  have : ∀ c ∈ sgns, sgn c < 95 := by decide +kernel
  exact this c h
mutual
theorem octs_oct : ∀ d, Pln d → ∀ x ∈ octs d, x < 256
  | .non, _, x, h => by rw [octs, List.mem_singleton] at h; omega
  | .bl b, _, x, h => by rw [octs, List.mem_singleton] at h; subst h; cases b <;> decide
  | .int i, _, x, h => by
    rw [octs] at h
    split at h <;> rw [List.mem_cons] at h <;> rcases h with rfl | h
    · decide
    · exact sev_oct _ x h
    · decide
    · exact sev_oct _ x h
  | .str l, p, x, h => by
    rw [octs, List.mem_cons, List.mem_append, List.mem_map] at h
    rw [Pln] at p
    rcases h with rfl | h | ⟨c, hc, rfl⟩
    · decide
    · exact sev_oct _ x h
    · have := sgn_lt (p.2 c hc); omega
  | .tup ds, p, x, h => by
    rw [octs, List.mem_cons, List.mem_append] at h
    rw [Pln] at p
    rcases h with rfl | h | h
    · decide
    · exact sev_oct _ x h
    · exact octsL_oct ds p.2 x h
  | .lst _, _, x, h => by rw [octs] at h; simp at h
theorem octsL_oct : ∀ ds, PlnL ds → ∀ x ∈ octsL ds, x < 256
  | [], _, x, h => by rw [octsL] at h; simp at h
  | d :: ds, p, x, h => by
    rw [octsL, List.mem_append] at h
    rw [PlnL] at p
    rcases h with h | h
    · exact octs_oct d p.1 x h
    · exact octsL_oct ds p.2 x h
end
end My

set_option Elab.async false
set_option linter.all false
set_option maxRecDepth 100000
set_option maxHeartbeats 1000000
/-! texts: signs, lengths, slices, comprehensions; chains; all. -/
namespace My
open PySem PySem.Spec PyProof.Rows L2 Evl
section
variable {K : PySem.W.Frag}
theorem ev_sidx {σ : L2.St} {H : Hp} {te tb : TE} {a b : Str} {i : Nat} {r : List Nat} (h : Ev te σ H (.str a)) (hb : Ev tb σ H (.str b)) (ho : Builtin.Str.occurrences a b 0 a.length 1 = i :: r) :
    Ev (tBM K "str" (fun x xs H Q => ∃ a b i rest, x = .str a ∧ xs = [.str b] ∧ Builtin.Str.occurrences a b 0 a.length 1 = i :: rest ∧ Q (.int (i : Nat)) H) te (tCons tb tNil)) σ H (.int (i : Int)) := fun H1 e Q q =>
  h H1 e _ fun H2 e2 => ⟨rfl, hb H2 (e.trans e2) _ fun H3 e3 => ⟨a, b, i, r, rfl, rfl, ho, q H3 (e2.trans e3)⟩⟩
theorem ev_lenT {σ : L2.St} {H : Hp} {ta : TE} {p : Addr} {xs : List V} (ha : Ev ta σ H (.ref p)) (h : SqT K H p xs) : Ev (tCB (rLenS K) (tCons ta tNil)) σ H (.int (xs.length : Int)) := fun H1 e Q q =>
  ha H1 e _ fun H2 e2 => ⟨p, xs, rfl, .inr (ex_t (e.trans e2) h), q H2 e2⟩
theorem ev_lenS {σ : L2.St} {H : Hp} {ta : TE} {l : List Nat} (ha : Ev ta σ H (.str (tx l))) (hz : l.length ≤ 100000) : Ev (tCB (fun xs H Q => ∃ z, xs = [.str z] ∧ z.length ≤ sizeLine ∧ Q (.int z.length) H) (tCons ta tNil)) σ H (.int (l.length : Int)) := fun H1 e Q q =>
  ha H1 e _ fun H2 e2 => ⟨tx l, rfl, by rw [tx_len]; exact sz_of hz, by rw [tx_len]; exact q H2 e2⟩
theorem el_if {σ : L2.St} {H : Hp} {t : TT} {ta tb : TE} {xs : List V} {b : Bool} (h : EvT t σ H b) (h1 : b = true → EvL ta σ H xs) (h2 : b = false → EvL tb σ H xs) : EvL (tIf t ta tb) σ H xs := fun H1 e Q q => h H1 e _ fun H2 e2 => by
  cases b with
  | true => exact h1 rfl H2 (e.trans e2) Q fun p H3 hp e3 h3 => q p H3 (fresh_back e2 hp) (e2.trans e3) h3
  | false => exact h2 rfl H2 (e.trans e2) Q fun p H3 hp e3 h3 => q p H3 (fresh_back e2 hp) (e2.trans e3) h3

variable {σ : L2.St} {H H' : Hp} {ta : TA} {te tb tc tl : TE} {xs ys : List V} {x y z v : V} {p : Addr} {D : Ends} {tu tz : TS}
theorem rv_inSn {c : Nat} {l : List Nat} : RV (fun x y H Q => ∃ (c : Nat) (z : Str), x = .str ⟨#[c]⟩ ∧ y = .str z ∧ Q (.bl (decide (c ∈ z.cps.toList))) H) (.str (tx [c])) (.str (tx l)) H (.bl (decide (c ∈ l))) := rv_val fun H1 _ Q q => ⟨c, tx l, rfl, rfl, q⟩
theorem rv_niSn {c : Nat} {l : List Nat} : RV (fun x y H Q => ∃ (c : Nat) (z : Str), x = .str ⟨#[c]⟩ ∧ y = .str z ∧ Q (.bl (!decide (c ∈ z.cps.toList))) H) (.str (tx [c])) (.str (tx l)) H (.bl (!decide (c ∈ l))) := rv_val fun H1 _ Q q => ⟨c, tx l, rfl, rfl, q⟩
theorem ev_chain {r r' : R2} {w' : V} {k m : Bool} (ha : Ev te σ H x) (hb : Ev tb σ H y) (hr : RV r x y H (.bl k)) (hc : k = true → Ev tc σ H w') (hr' : k = true → RV r' y w' H (.bl m)) : Ev (tChain r r' te tb tc) σ H (.bl (k && m)) := fun H1 e Q q =>
  ha H1 e _ fun H2 e2 => hb H2 (e.trans e2) _ fun H3 e3 => hr H3 ((e.trans e2).trans e3) _ fun H4 e4 => ⟨k, rfl, by
    have E := ((e.trans e2).trans e3).trans e4
    cases k with
    | false => exact q H4 ((e2.trans e3).trans e4)
    | true => exact hc rfl H4 E _ fun H5 e5 => hr' rfl H5 (E.trans e5) _ fun H6 e6 => q H6 ((((e2.trans e3).trans e4).trans e5).trans e6)⟩
theorem ev_all {bs : List Bool} (h : EvL te σ H (bs.map V.bl)) : Ev (tCB (rAll K) (tCons te tNil)) σ H (.bl (bs.all id)) := fun H1 e Q q =>
  h H1 e _ fun p H2 _ e2 hp => ⟨p, bs, rfl, sq_of hp, q H2 e2⟩
theorem el_split {a b : Str} (ha : Ev te σ H (.str a)) (hb : Ev tb σ H (.str b)) (h0 : (b.length == 0) = false) (hz : a.length + 2 ≤ 100000) :
    EvL (tM1 (fun x xs H Q => ∃ a b, x = .str a ∧ xs = [.str b] ∧ (b.length == 0) = false ∧ a.length + 2 ≤ sizeLine ∧ rNewStrs (Txt.split a b) H Q) te tb) σ H ((Txt.split a b).map V.str) := fun H1 e Q q =>
  ha H1 e _ fun H2 e2 => ⟨⟨a, rfl⟩, hb H2 (e.trans e2) _ fun H3 e3 => ⟨a, b, rfl, rfl, h0, sz_of hz, fun l hl => q l _ (fresh_back (e2.trans e3) hl) ((e2.trans e3).trans (Ex.new hl)) upd_same⟩⟩
theorem ev_slS {l : List Nat} {tlo thi : TO} {lo hi : Option Int} (h : Ev te σ H (.str (tx l))) (h1 : EvO tlo σ H lo) (h2 : EvO thi σ H hi) (hz : l.length ≤ 100000) : Ev (tSl rSlS te tlo thi) σ H (.str (cutS (tx l) lo hi)) := fun H1 e Q q =>
  h H1 e _ fun H2 e2 => h1 H2 (e.trans e2) _ fun H3 e3 => h2 H3 ((e.trans e2).trans e3) _ fun H4 e4 => ⟨tx l, rfl, by rw [tx_len]; exact sz_of hz, q H4 ((e2.trans e3).trans e4)⟩
theorem cutS_take (l : List Nat) (n : Nat) : cutS (tx l) none (some (n : Int)) = tx (l.take n) := by
  unfold cutS
  rw [HT.sIx_nat, HT.sIx_none, tx_list, List.drop_zero, Nat.sub_zero, tx_len]
  by_cases h : n ≤ l.length
  · rw [Nat.min_eq_left h]; rfl
  · rw [Nat.min_eq_right (by omega), List.take_of_length_le (Nat.le_refl _), List.take_of_length_le (show l.length ≤ n by omega)]; rfl
/-- a comprehension over a text, no test -/
theorem el_lcS {j : Nat} {vs : List Nat} {l : List Nat} (v : Nat → V) (h : Ev tl σ H (.str (tx l))) (hz : l.length ≤ 40000) (hw : ∀ x, wipe ((wipe σ vs).set j (some x)) vs = wipe σ vs)
    (he : ∀ c H1, Ex H H1 → c ∈ l → Ev te ((wipe σ vs).set j (some (.str (tx [c])))) H1 (v c)) : EvL (tLc (iStr tl) (gName j) tYes te vs) σ H (l.map v) := by
  intro H0 e Q q
  refine h H0 e _ fun H1 e1 => ⟨tx l, rfl, fun Dl hD => ?_⟩
  have hsz : (tx l).cps.size = l.length := List.size_toArray
  refine ⟨fun i m H' => m = l.length - i ∧ i ≤ l.length ∧ Ex H1 H' ∧ H' Dl = some (.lst ((l.take i).map v)), ⟨l.length, rfl, Nat.zero_le _, Ex.new hD, upd_same⟩, ?_⟩
  rintro i m H' ⟨rfl, hi, ex, hl⟩
  by_cases hlt : i < l.length
  · refine .inr ⟨show i < _ by rw [hsz]; exact hlt, fun H' => Ex H1 H' ∧ H' Dl = some (.lst ((l.take (i + 1)).map v)), fun H2 p => ⟨l.length - (i + 1), by omega, rfl, hlt, p⟩, fun x H2 y => ?_⟩
    obtain ⟨rfl, c, hc, rfl⟩ := y
    have hc' : l[i]? = some c := by simpa [tx] using hc
    refine ⟨hw _, ?_⟩
    refine tyes_ ?_
    refine iteT (he c H1 (e.trans e1) (List.mem_of_getElem? hc') H2 ex _ fun H3 e3 => ⟨_, e3 Dl _ hl, sz_lt (by rw [List.length_map, List.length_take]; omega), (ex.trans e3).mut hD, ?_⟩)
    rw [upd_same, List.take_add_one, hc', List.map_append]
    rfl
  · have e0 : i = l.length := by omega
    subst e0
    rw [List.take_of_length_le (Nat.le_refl _)] at hl
    exact .inl ⟨show _ ≤ _ by rw [hsz]; exact Nat.le_refl _, q Dl H' (fresh_back e1 hD) (e1.trans ex) hl⟩
/-- a comprehension over a new list, no test -/
theorem el_lcN {j : Nat} {vs : List Nat} (g : V → V) (h : EvL tl σ H xs) (hz : xs.length ≤ 40000) (hw : ∀ x, wipe ((wipe σ vs).set j (some x)) vs = wipe σ vs)
    (he : ∀ x H1, Ex H H1 → x ∈ xs → Ev te ((wipe σ vs).set j (some x)) H1 (g x)) : EvL (tLc (iList K tl) (gName j) tYes te vs) σ H (xs.map g) := by
  intro H0 e Q q
  refine h H0 e _ fun a H1 ha e1 h1 => ⟨a, rfl, ⟨xs, sq_of h1⟩, fun Dl hD => ?_⟩
  refine ⟨fun i m H' => m = xs.length - i ∧ i ≤ xs.length ∧ Ex H1 H' ∧ H' Dl = some (.lst ((xs.take i).map g)), ⟨xs.length, rfl, Nat.zero_le _, Ex.new hD, upd_same⟩, ?_⟩
  rintro i m H' ⟨rfl, hi, ex, hl⟩
  by_cases hlt : i < xs.length
  · have gx : xs[i]? = some xs[i] := List.getElem?_eq_getElem hlt
    refine .inr ⟨⟨xs, xs[i], sq_of (ex a _ h1), gx⟩, fun H' => Ex H1 H' ∧ H' Dl = some (.lst ((xs.take (i + 1)).map g)), fun H2 p => ⟨xs.length - (i + 1), by omega, rfl, hlt, p⟩, fun x H2 y => ?_⟩
    obtain ⟨rfl, y⟩ := y
    have ex' : x = xs[i] := Option.some.inj ((y xs (sq_of (ex a _ h1))).symm.trans gx)
    subst ex'
    refine ⟨hw _, ?_⟩
    refine tyes_ ?_
    refine iteT (he _ H1 (e.trans e1) (List.mem_of_getElem? gx) H2 ex _ fun H3 e3 => ⟨_, e3 Dl _ hl, sz_lt (by rw [List.length_map, List.length_take]; omega), (ex.trans e3).mut hD, ?_⟩)
    rw [upd_same, List.take_add_one, gx, List.map_append]
    rfl
  · have e0 : i = xs.length := by omega
    subst e0
    rw [List.take_of_length_le (Nat.le_refl _)] at hl
    exact .inl ⟨⟨xs, sq_of (ex a _ h1), Nat.le_refl _⟩, q Dl H' (fresh_back e1 hD) (e1.trans ex) hl⟩
end
end My

set_option Elab.async false
set_option linter.all false
set_option maxRecDepth 100000
set_option maxHeartbeats 1000000
/-! text * int; is True; the laws' pool of draws; sameness of data. -/
namespace My
open PySem PySem.Spec PyProof.Rows L2 Evl
section
variable {X : Cx}
def rMulS : R2 := fun x y H Q => ∃ a n, x = .str a ∧ y = .int n ∧ MulOk a n ∧ Q (.str (Txt.mul a n)) H
theorem op_mulS : OpR X (binaryOp .Mult) rMulS := by
  intro pins s σ H x y v u Q I rx ry h
  obtain ⟨i, j, rfl, rfl, hz, q⟩ := h
  obtain ⟨t, rfl⟩ := rx
  obtain ⟨t', rfl⟩ := ry
  exact SB.mul hz fun t' tk => ⟨.str _, H, I.tok _, ⟨_, rfl⟩, q⟩
def rIsBA : R2 := fun x y H Q => ∃ b, y = .bl b ∧ Q (.bl (decide (x = .bl b))) H
theorem op_isBA : OpR X (compareOp .Is) rIsBA := by
  intro pins s σ H x y v u Q I rx ry h
  obtain ⟨b, rfl, q⟩ := h
  cases (show u = Value.bool b from ry)
  cases x with
  | bl a =>
    cases (show v = Value.bool a from rx)
    by_cases e : a = b
    · subst e
      exact wpAny_is_self rfl ⟨.bl true, H, I, rfl, by simpa using q⟩
    · exact wpAny_is_other rfl (fun z => e (Value.bool.inj z)) ⟨.bl false, H, I, rfl, by simpa [e] using q⟩
  | _ => first
    | (cases rx; exact wpAny_is_other rfl (fun z => nomatch z) ⟨.bl false, H, I, rfl, q⟩)
    | (obtain ⟨t, rfl⟩ := rx; exact wpAny_is_other rfl (fun z => nomatch z) ⟨.bl false, H, I, rfl, q⟩)
end
/-! ### heaps in which the pool alone is written -/
def Keep (p : Addr) (H H' : Hp) : Prop := ∀ a o, a ≠ p → H a = some o → H' a = some o
def Pool (K : PySem.W.Frag) (H : Hp) (p sc : Addr) (ns : List Int) : Prop := ∃ r f : Nat, H p = some (.lst [.ref sc, .int ((0 : Nat) : Int), .int (r : Int), .int (f : Int)]) ∧ SqL K H sc (ns.map V.int)
def G (K : PySem.W.Frag) (p sc : Addr) (ns : List Int) (H H' : Hp) : Prop := Keep p H H' ∧ Pool K H' p sc ns
section
variable {K : PySem.W.Frag} {p q a sc : Addr} {ns : List Int} {H H1 H2 H3 : Hp} {xs : List V} {v : V} {d : D} {o : HO}
theorem Keep.of (e : Ex H H1) : Keep p H H1 := fun x o _ h => e x o h
theorem Keep.trans (a : Keep p H H1) (b : Keep p H1 H2) : Keep p H H2 := fun x o n h => b x o n (a x o n h)
theorem Keep.upd : Keep p H (upd H p o) := fun x u n h => by rw [upd_ne n]; exact h
theorem Keep.new (k : Keep p H1 H2) (h : H1 q = none) : Keep p H1 (L2.upd H2 q o) := fun x u n e => by
  have nq : x ≠ q := fun z => by rw [z, h] at e; exact nomatch e
  rw [upd_ne nq]
  exact k x u n e
theorem keep_l (k : Keep p H H1) (n : a ≠ p) (h : SqL K H a xs) : SqL K H1 a xs := by
  rcases h with (h | ⟨o, h⟩) | h
  · exact .inl (.inl (k _ _ n h))
  · exact .inl (.inr ⟨o, k _ _ n h⟩)
  · exact .inr h
theorem keep_t (k : Keep p H H1) (n : a ≠ p) (h : SqT K H a xs) : SqT K H1 a xs := by
  rcases h with (h | ⟨o, h⟩) | h
  · exact .inl (.inl (k _ _ n h))
  · exact .inl (.inr ⟨o, k _ _ n h⟩)
  · exact .inr h
theorem sc_keep (hp : H p = some (.lst (.ref q :: xs))) (k : Keep p H H1) (h : SqL K H sc (ns.map V.int)) : SqL K H1 sc (ns.map V.int) := by
  rcases h with (h | ⟨o, h⟩) | h
  · have n : sc ≠ p := fun e => by
      rw [e, hp] at h
      have := HO.lst.inj (Option.some.inj h)
      cases ns with
      | nil => exact nomatch this
      | cons x r => exact nomatch (List.cons.inj this).1
    exact .inl (.inl (k _ _ n h))
  · have n : sc ≠ p := fun e => by
      rw [e, hp] at h
      exact nomatch Option.some.inj h
    exact .inl (.inr ⟨o, k _ _ n h⟩)
  · exact .inr h
theorem Pool.mk' {r f : Nat} (h : Pool K H p sc ns) (k : Keep p H H1) (h1 : H1 p = some (.lst [.ref sc, .int ((0 : Nat) : Int), .int (r : Int), .int (f : Int)])) : Pool K H1 p sc ns := by
  obtain ⟨_, _, hp, hs⟩ := h
  exact ⟨r, f, h1, sc_keep hp k hs⟩
theorem Pool.ex (e : Ex H H1) (h : Pool K H p sc ns) : Pool K H1 p sc ns := by
  obtain ⟨r, f, h1, h2⟩ := h
  exact ⟨r, f, e p _ h1, ex_l e h2⟩
theorem G.trans (a : G K p sc ns H H1) (b : G K p sc ns H1 H2) : G K p sc ns H H2 := ⟨a.1.trans b.1, b.2⟩
theorem G.ex (e : Ex H H1) (h : Pool K H p sc ns) : G K p sc ns H H1 := ⟨.of e, h.ex e⟩
theorem G.refl (h : Pool K H p sc ns) : G K p sc ns H H := G.ex (Ex.refl H) h
theorem G.exR (g : G K p sc ns H H1) (e : Ex H1 H2) : G K p sc ns H H2 := g.trans (G.ex e g.2)
theorem G.exL (e : Ex H H1) (g : G K p sc ns H1 H2) : G K p sc ns H H2 := ⟨(Keep.of e).trans g.1, g.2⟩
/-- a new object beside the pool -/
theorem Pool.ne (h : Pool K H p sc ns) (ha : H a = none) : a ≠ p := fun e => by
  obtain ⟨r, f, h1, _⟩ := h
  rw [e, h1] at ha
  exact nomatch ha
theorem G.new (h : Pool K H1 p sc ns) (g : G K p sc ns H1 H2) (hq : H1 q = none) : G K p sc ns H1 (upd H2 q o) := by
  refine ⟨g.1.new hq, ?_⟩
  obtain ⟨r, f, h1, _⟩ := g.2
  exact h.mk' (g.1.new hq) (by rw [upd_ne (h.ne hq).symm]; exact h1)
mutual
theorem Rep.off (k : Keep p H H1) (hp : ∀ us, H p ≠ some (.tup us)) : ∀ {v : V} {d : D}, Pln d → Rep H v d → Rep H1 v d
  | _, _, _, .non => .non
  | _, _, _, .bl b => .bl b
  | _, _, _, .int i => .int i
  | _, _, _, .str l => .str l
  | _, .tup ds, h, .tup q r => .tup (k _ _ (fun e => hp _ (e ▸ q)) q) (Reps.off k hp (by rw [Pln] at h; exact h.2) r)
  | _, .lst ds, h, .lst q r => (by rw [Pln] at h; exact h.elim)
theorem Reps.off (k : Keep p H H1) (hp : ∀ us, H p ≠ some (.tup us)) : ∀ {vs : List V} {ds : List D}, PlnL ds → Reps H vs ds → Reps H1 vs ds
  | _, _, _, .nil => .nil
  | _, _ :: _, h, .cons r rs => .cons (Rep.off k hp (by rw [PlnL] at h; exact h.1) r) (Reps.off k hp (by rw [PlnL] at h; exact h.2) rs)
end
theorem Pool.noT (h : Pool K H p sc ns) (us : List V) : H p ≠ some (.tup us) := fun e => by
  obtain ⟨r, f, h1, _⟩ := h
  rw [h1] at e
  exact nomatch Option.some.inj e
theorem Rep.g (g : G K p sc ns H H1) (hp : Pool K H p sc ns) (h : Pln d) (r : Rep H v d) : Rep H1 v d := Rep.off g.1 hp.noT h r
theorem Reps.g {vs : List V} {ds : List D} (g : G K p sc ns H H1) (hp : Pool K H p sc ns) (h : PlnL ds) (r : Reps H vs ds) : Reps H1 vs ds := Reps.off g.1 hp.noT h r
end
/-! ### promises of the draws -/
def sp_draw (K : PySem.W.Frag) : Sp := fun vs H Q _ => ∃ (p sc : Addr) (ns : List Int) (limit : Nat), vs = [.ref p, .int (limit : Int)] ∧ Pool K H p sc ns ∧ 0 < limit ∧ limit < 2 ^ 63 ∧ ∀ (v : Nat) H', v < limit → G K p sc ns H H' → Q (.int (v : Int)) H'
def sp_pick (K : PySem.W.Frag) : Sp := fun vs H Q _ => ∃ (p sc : Addr) (ns : List Int) (a : Addr) (xs : List V), vs = [.ref p, .ref a] ∧ Pool K H p sc ns ∧ SqL K H a xs ∧ a ≠ p ∧ xs ≠ [] ∧ xs.length ≤ 1000 ∧ ∀ v H', v ∈ xs → G K p sc ns H H' → Q v H'
/-! ### steps by hand -/
section
variable {σ : L2.St} {H : Hp} {Q : VK} {R : List V → Hp → Prop} {ta tr : TA} {te tb : TE} {r : R2} {D : Ends} {sp : Sp} {dvs : List V} {E : XK} {v : V} {i : Nat} {tz : TS}
theorem r_ret (h : te σ H D.rt) : tRet te D σ H := h
theorem r_op (h : te σ H fun x H1 => tb σ H1 fun y H2 => r x y H2 Q) : tOp r te tb σ H Q := h
theorem r_var (h : σ[i]? = some (some v)) (q : Q v H) : tVar i σ H Q := ⟨v, h, q⟩
theorem r_c (q : Q v H) : tC v σ H Q := q
theorem r_call (h : ta σ H fun vs H1 => sp (vs ++ dvs) H1 Q E) : tCall sp dvs E ta σ H Q := h
theorem r_cons (h : te σ H fun x H1 => tr σ H1 fun xs H2 => R (x :: xs) H2) : tCons te tr σ H R := h
theorem r_nil (h : R [] H) : tNil σ H R := h
theorem r_ev {H0 : Hp} (h : Ev te σ H0 v) (e : Ex H0 H) (q : ∀ H2, Ex H H2 → Q v H2) : te σ H Q := h H e Q q
theorem r_el {H0 : Hp} {xs : List V} (h : EvL te σ H0 xs) (e : Ex H0 H) (q : ∀ a H2, H a = none → Ex H H2 → H2 a = some (.lst xs) → Q (.ref a) H2) : te σ H Q := h H e Q q
theorem r_asg (h : te σ H fun v H1 => tz D (σ.set i (some v)) H1) : tSeq (tAsg te (gName i)) tz D σ H := h
theorem r_if {t : TT} (h : t σ H fun b H1 => if b = true then te σ H1 Q else tb σ H1 Q) : tIf t te tb σ H Q := h
theorem r_test {B : Bool → Hp → Prop} (h : te σ H fun x H' => ∃ k, x = .bl k ∧ B k H') : tTest te σ H B := h
theorem r_draw {K : PySem.W.Frag} {p sc : Addr} {ns : List Int} {n : Nat} (hP : Pool K H p sc ns) (ha : EvA ta σ H [.ref p, .int (n : Int)]) (h0 : 0 < n) (hn : n < 2 ^ 63) (q : ∀ (v : Nat) H', v < n → G K p sc ns H H' → Q (.int (v : Int)) H') : tCall (sp_draw K) [] E ta σ H Q :=
  ha H (Ex.refl H) _ fun H1 e1 => ⟨p, sc, ns, n, rfl, hP.ex e1, h0, hn, fun v H' hv g => q v H' hv (G.exL e1 g)⟩
theorem r_pick {K : PySem.W.Frag} {p sc : Addr} {ns : List Int} {xs : List V} (hP : Pool K H p sc ns) (ha : Ev te σ H (.ref p)) (hb : EvL tb σ H xs) (h0 : xs ≠ []) (hn : xs.length ≤ 1000) (q : ∀ v H', v ∈ xs → G K p sc ns H H' → Q v H') : tCall (sp_pick K) [] E (tCons te (tCons tb tNil)) σ H Q :=
  ha H (Ex.refl H) _ fun H1 e1 => hb H1 e1 _ fun a H2 hn2 e2 h2 => ⟨p, sc, ns, a, xs, rfl, hP.ex (e1.trans e2), sq_of h2, (hP.ex e1).ne hn2, h0, hn, fun v H' hv g => q v H' hv (G.exL (e1.trans e2) g)⟩
theorem r_lcR1 {g : TG} {tt : TT} {vs : List Nat} (h : ta σ H fun ws H1 => ∃ j : Int, ws = [.int j] ∧ -(2 ^ 62) ≤ j ∧ j < 2 ^ 62 ∧ ∀ D, H1 D = none → ∃ W : Nat → Nat → Hp → Prop, (∃ m, W 0 m (upd H1 D (.lst []))) ∧ ∀ i m H, W i m H →
    ((Itr 0 j.toNat).stop i H ∧ Q (.ref D) H) ∨ ((Itr 0 j.toNat).go i H ∧ ∃ Nx : Hp → Prop, (∀ H', Nx H' → ∃ m', m' < m ∧ W (i + 1) m' H') ∧ ∀ x H', (Itr 0 j.toNat).yld i H x H' → g x (wipe σ vs) H' fun σ2 H2 => wipe σ2 vs = wipe σ vs ∧ tt σ2 H2 fun b H3 =>
      if b = true then te σ2 H3 fun y H4 => ∃ acc, H4 D = some (.lst acc) ∧ acc.length < sizeLine ∧ Nx (upd H4 D (.lst (acc ++ [y]))) else Nx H3)) : tLc (iRng1 ta) g tt te vs σ H Q := h
theorem r_cb {g : List V → Hp → VK → Prop} (h : ta σ H fun xs H1 => g xs H1 Q) : tCB g ta σ H Q := h
end
/-! ### the numbers -/
def m89 : Nat := 618970019642690137449562111
def m107 : Nat := 162259276829213363391578010288127
def mixF (n p : Nat) : Nat :=
  let f := (n * 48271 + p * 69621 + 11) % m89
  let s := (f * f + 7 * f + p) % m107
  s * m89 + (s * s + f) % m89
def absF (i : Int) : Nat := if i < 0 then (1 - 2 * i).toNat else i.toNat
def restF (xs : List Int) (p f : Nat) : Nat :=
  let n := if 0 < xs.length then absF (xs.getD (p % xs.length) 0) else 0
  if f = 0 ∧ p < xs.length ∧ 10 ^ 18 ≤ n then n - 10 ^ 18 else mixF (n + f * 1000003) p
/-! ### sameness -/
mutual
def sameD : D → D → Bool
  | .non, .non => true
  | .bl a, .bl b => decide (a = b)
  | .int a, .int b => decide (a = b)
  | .str a, .str b => decide (a = b)
  | .tup a, .tup b => sameL a b
  | .lst a, .lst b => sameL a b
  | _, _ => false
def sameL : List D → List D → Bool
  | [], [] => true
  | a :: as, b :: bs => sameD a b && sameL as bs
  | _, _ => false
end
mutual
theorem sameD_refl : ∀ d, sameD d d = true
  | .non => by rw [sameD]
  | .bl _ => by rw [sameD]; exact decide_eq_true rfl
  | .int _ => by rw [sameD]; exact decide_eq_true rfl
  | .str _ => by rw [sameD]; exact decide_eq_true rfl
  | .tup ds => by rw [sameD]; exact sameL_refl ds
  | .lst ds => by rw [sameD]; exact sameL_refl ds
theorem sameL_refl : ∀ ds, sameL ds ds = true
  | [] => by rw [sameL]
  | d :: ds => by rw [sameL, sameD_refl d, sameL_refl ds]; rfl
end
end My

set_option Elab.async false
set_option linter.all false
set_option maxRecDepth 100000
set_option maxHeartbeats 1000000
/-! literals whose items are new tuples; loops over rows of two; a row picked. -/
namespace My
open PySem PySem.Spec PyProof.Rows L2 Evl
mutual
def plnB : D → Bool
  | .non => true
  | .bl _ => true
  | .int i => decide (i.natAbs < 2 ^ 64)
  | .str l => decide (l.length ≤ 1000) && l.all fun c => decide (c ∈ sgns)
  | .tup ds => decide (ds.length ≤ 1000) && plnBL ds
  | .lst _ => false
def plnBL : List D → Bool
  | [] => true
  | d :: ds => plnB d && plnBL ds
end
mutual
theorem plnB_ok : ∀ d, plnB d = true → Pln d
  | .non, _ => by rw [Pln]; trivial
  | .bl _, _ => by rw [Pln]; trivial
  | .int i, h => by rw [plnB] at h; rw [Pln]; exact of_decide_eq_true h
  | .str l, h => by
    rw [plnB, Bool.and_eq_true] at h
    rw [Pln]
    exact ⟨of_decide_eq_true h.1, fun c hc => of_decide_eq_true (List.all_eq_true.mp h.2 c hc)⟩
  | .tup ds, h => by
    rw [plnB, Bool.and_eq_true] at h
    rw [Pln]
    exact ⟨of_decide_eq_true h.1, plnBL_ok ds h.2⟩
  | .lst _, h => by rw [plnB] at h; exact nomatch h
theorem plnBL_ok : ∀ ds, plnBL ds = true → PlnL ds
  | [], _ => by rw [PlnL]; trivial
  | d :: ds, h => by
    rw [plnBL, Bool.and_eq_true] at h
    rw [PlnL]
    exact ⟨plnB_ok d h.1, plnBL_ok ds h.2⟩
end
def EvAR (ta : TA) (σ : L2.St) (H : Hp) (ds : List D) : Prop := EvAP ta σ H fun vs H' => Reps H' vs ds
section
variable {K : PySem.W.Frag} {σ : L2.St} {H : Hp} {ta tr : TA} {te tl tb : TE} {d : D} {ds : List D} {D0 : Ends} {tu tz : TS} {E : XK} {Q : VK}
theorem er_nil : EvAR tNil σ H [] := fun H1 _ Q q => q [] H1 (Ex.refl H1) .nil
theorem er_cons (h : EvD te σ H d) (hr : EvAR tr σ H ds) : EvAR (tCons te tr) σ H (d :: ds) := fun H1 e Q q =>
  h H1 e _ fun v H2 e2 r => hr H2 (e.trans e2) _ fun vs H3 e3 rs => q _ H3 (e2.trans e3) (.cons (r.mono e3) rs)
theorem ed_tup (h : EvAR ta σ H ds) (hn : ds.length ≤ 100000) : EvD (tTup ta) σ H (.tup ds) := fun H1 e Q q =>
  h H1 e _ fun vs H2 e2 rs => ⟨sz_of (by rw [rs.len]; exact hn), fun p hp => q (.ref p) _ (e2.trans (Ex.new hp)) (.tup upd_same (rs.mono (Ex.new hp)))⟩
theorem ed_lst (h : EvAR ta σ H ds) (hn : ds.length ≤ 100000) : EvD (tLst ta) σ H (.lst ds) := fun H1 e Q q =>
  h H1 e _ fun vs H2 e2 rs => ⟨sz_of (by rw [rs.len]; exact hn), fun p hp => q (.ref p) _ (e2.trans (Ex.new hp)) (.lst upd_same (rs.mono (Ex.new hp)))⟩
theorem rv_mulSn {c : Nat} {l : List Nat} {n : Int} (hm : MulOk (tx [c]) n) (he : Txt.mul (tx [c]) n = tx l) : RV rMulS (.str (tx [c])) (.int n) H (.str (tx l)) := fun H1 _ Q q =>
  ⟨tx [c], n, rfl, rfl, hm, by rw [he]; exact q H1 (Ex.refl H1)⟩
theorem q_forD2 {rows : List (D × D)} {j1 j2 : Nat} (h : EvD tl σ H (.lst (rows.map fun r => .tup [r.1, r.2]))) (Pv : Hp → Nat → L2.St → Hp → Prop) (h0 : ∀ H1, Ex H H1 → Pv H1 0 σ H1) (hk : ∀ H1 i σ' H', Pv H1 i σ' H' → Ex H1 H')
    (hs : ∀ H1 i r v1 v2 σ' H', Ex H H1 → rows[i]? = some r → Rep H' v1 r.1 → Rep H' v2 r.2 → Pv H1 i σ' H' → tu { D0 with nx := Pv H1 (i + 1), ct := Pv H1 (i + 1), bk := tz D0 } ((σ'.set j1 (some v1)).set j2 (some v2)) H')
    (hd : ∀ H1 σ' H', Ex H H1 → Pv H1 rows.length σ' H' → tz D0 σ' H') : tSeq (tFor (iList K tl) (gTup K 2 (gCons (gName j1) (gCons (gName j2) gNil))) tu) tz D0 σ H := by
  refine h H (Ex.refl H) _ fun v H1 e r => ?_
  cases r with
  | @lst a vs _ hl rs =>
    have hlen : vs.length = rows.length := by rw [rs.len, List.length_map]
    refine ⟨a, rfl, ⟨vs, sq_of hl⟩, for_list (Pv H1) (h0 H1 e) (fun i σ' H' _ p => sq_of (hk H1 i σ' H' p a _ hl)) (fun i x σ' H' hx p => ?_) (fun σ' H' p => hd H1 σ' H' e (by rw [← hlen]; exact p))⟩
    obtain ⟨d, hd', rd⟩ := rs.get' hx
    rw [List.getElem?_map] at hd'
    obtain ⟨r, hr, e2⟩ := Option.map_eq_some_iff.mp hd'
    rw [← e2] at rd
    have ex := hk H1 i σ' H' p
    cases rd with
    | tup ht rr =>
      cases rr with
      | cons r1 rr =>
        cases rr with
        | cons r2 rr =>
          cases rr
          exact ⟨_, _, rfl, st_of (ex _ _ ht), rfl, _, _, rfl, _, _, rfl, rfl, hs H1 i r _ _ σ' H' e hr (r1.mono ex) (r2.mono ex) p⟩
def tupB : D → Bool
  | .tup _ => true
  | _ => false
/-- a row picked -/
theorem r_pickD {p sc : Addr} {ns : List Int} (hP : Pool K H p sc ns) (ha : Ev te σ H (.ref p)) (hb : EvD tb σ H (.lst ds)) (h0 : ds ≠ []) (hn : ds.length ≤ 1000) (hp : plnBL ds = true) (ht : ds.all tupB = true) (q : ∀ v d H', d ∈ ds → Rep H' v d → G K p sc ns H H' → Q v H') : tCall (sp_pick K) [] E (tCons te (tCons tb tNil)) σ H Q :=
  ha H (Ex.refl H) _ fun H1 e1 => hb H1 e1 _ fun v H2 e2 r => by
    have E2 := e1.trans e2
    have P2 := hP.ex E2
    cases r with
    | @lst a vs _ hl rs =>
      have hne : a ≠ p := fun e => by
        subst e
        obtain ⟨r, f, h1, _⟩ := P2
        rw [h1] at hl
        have := HO.lst.inj (Option.some.inj hl)
        subst this
        cases rs with
        | cons r1 rs =>
          cases rs with
          | cons r2 rs =>
            cases r2
            rw [List.all_cons, List.all_cons, Bool.and_eq_true, Bool.and_eq_true] at ht
            exact nomatch ht.2.1
      refine ⟨p, sc, ns, a, vs, rfl, P2, sq_of hl, hne, ?_, by rw [rs.len]; exact hn, fun v H' hv g => ?_⟩
      · intro z
        subst z
        exact h0 (List.length_eq_zero_iff.mp rs.len.symm)
      · obtain ⟨i, hi, rfl⟩ := List.mem_iff_getElem.mp hv
        obtain ⟨d, hd, rd⟩ := rs.get' (List.getElem?_eq_getElem hi)
        exact q _ d H' (List.mem_of_getElem? hd) (Rep.g g P2 (PlnL_get (plnBL_ok _ hp) hd) rd) (G.exL E2 g)
end
end My

set_option Elab.async false
set_option linter.all false
set_option maxRecDepth 100000
set_option maxHeartbeats 1000000
/-! what the top has written: defs, numbers, texts, tuples. -/
namespace My
open PySem PySem.Spec PyProof.Rows L2 Evl
def HasF (K : PySem.W.Frag) (x : Str) (st : Stmt) : Prop := ∃ (f : Addr) (oc : Value) (od : Option Addr) (kV dc pm : Value) (an : Option Addr) (cd ct : Value) (sl : Array (Option Value)),
  PySem.W.nsIn K mainGlobals x = some (some (.ref f)) ∧ K.lookup f = some ⟨oc, od, .func (PySem.W.fnOf x x (defArgs st) (defBody st) (defScope st) .none kV dc pm an cd ct), sl⟩ ∧ PySem.W.codeIn K cd x = true ∧ PySem.W.keepIn K (.ref f) = true
def HasI (K : PySem.W.Frag) (x : Str) (n : Int) : Prop := ∃ t, PySem.W.nsIn K mainGlobals x = some (some (.int n t))
def HasS (K : PySem.W.Frag) (x z : Str) : Prop := ∃ t, PySem.W.nsIn K mainGlobals x = some (some (.str z t))
def HasT (K : PySem.W.Frag) (x : Str) (xs : List V) : Prop := ∃ (a : Addr) (o : Obj) (its : Array Value) (n : Nat), PySem.W.nsIn K mainGlobals x = some (some (.ref a)) ∧ K.lookup a = some o ∧ o.cls = .type "tuple" ∧ o.data = .seq its n ∧ its.size ≤ sizeLine ∧ Vals xs its.toList
section
variable {K : PySem.W.Frag} {h : Heap} {mg : Str → Option Value} {x z : Str} {st : Stmt} {n : Int} {xs : List V}
theorem HasF.mk' {f : Addr} {oc : Value} {od : Option Addr} {kV dc pm : Value} {an : Option Addr} {cd ct : Value} {sl : Array (Option Value)}
    (a : PySem.W.nsIn K mainGlobals x = some (some (.ref f))) (l : K.lookup f = some ⟨oc, od, .func (PySem.W.fnOf x x (defArgs st) (defBody st) (defScope st) .none kV dc pm an cd ct), sl⟩) (c : PySem.W.codeIn K cd x = true) (k : PySem.W.keepIn K (.ref f) = true) : HasF K x st :=
  ⟨f, oc, od, kV, dc, pm, an, cd, ct, sl, a, l, c, k⟩
theorem HasI.mk' {t : Tok} (a : PySem.W.nsIn K mainGlobals x = some (some (.int n t))) : HasI K x n := ⟨t, a⟩
theorem HasS.mk' {t : Tok} (a : PySem.W.nsIn K mainGlobals x = some (some (.str z t))) : HasS K x z := ⟨t, a⟩
theorem HasT.mk' {p : Addr} {od : Option Addr} {its : Array Value} {m : Nat} {sl : Array (Option Value)} (a : PySem.W.nsIn K mainGlobals x = some (some (.ref p))) (l : K.lookup p = some ⟨.type "tuple", od, .seq its m, sl⟩) (z : its.size ≤ sizeLine) (v : Vals xs its.toList) : HasT K x xs :=
  ⟨p, _, its, m, a, l, rfl, rfl, z, v⟩
theorem HasF.get (X : K.In h) (G : h.Ns mainGlobals mg) (H : HasF K x st) : ∃ f fd, Fun K x x st f fd ∧ mg x = some (.ref f) := by
  obtain ⟨f, oc, od, kV, dc, pm, an, cd, ct, sl, a, l, c, k⟩ := H
  exact ⟨f, _, fun_mk l c k, PySem.W.mg_of X G a⟩
theorem HasI.gi (X : K.In h) (G : h.Ns mainGlobals mg) (H : HasI K x n) : GI mg x n := by
  obtain ⟨t, a⟩ := H
  exact ⟨t, PySem.W.mg_of X G a⟩
theorem HasS.gs (X : K.In h) (G : h.Ns mainGlobals mg) (H : HasS K x z) : GS mg x z := by
  obtain ⟨t, a⟩ := H
  exact ⟨t, PySem.W.mg_of X G a⟩
theorem HasT.gt (X : K.In h) (G : h.Ns mainGlobals mg) (H : HasT K x xs) : GT K mg x xs := by
  obtain ⟨a, o, its, n, m, l, c, d, z, v⟩ := H
  exact ⟨a, PySem.W.mg_of X G m, fun _ => .inr ⟨o, its, n, l, c, d, z, v⟩⟩
end
end My

set_option Elab.async false
set_option linter.all false
set_option maxRecDepth 100000
namespace K01
open PySem PySem.Spec PyProof.Rows L2 Evl My
def topS (i : Nat) : Stmt := PySem.Challenge.pw_lineage_k01_names_by_sha.main.body.getD i (.Pass ⟨0, 0, 0, 0⟩)
end K01

set_option Elab.async false
set_option linter.all false
set_option maxRecDepth 100000
set_option maxHeartbeats 1000000
namespace K01
open PySem PySem.Spec PyProof.Rows L2 Evl My
section
variable {P : Program} {w : World} {K : PySem.W.Frag} {mg : Str → Option Value} {base : Heap}
/-! ### law: words of 32 bits -/
def rot (x b : Nat) : Nat := x / 2 ^ b + x % 2 ^ b * (4294967296 / 2 ^ b)
abbrev s_law_turn : Stmt := topS 40
theorem sc_law_turn : FnScope ["word", "bits", "power", "step"] ["word", "bits"] (defScope s_law_turn) := ⟨rfl, rfl, rfl, by decide +kernel, rfl, by decide +kernel, by decide +kernel⟩
/- 0 word, 1 bits, 2 power, 3 step -/
def ok_turn_ (vs : List V) (_ : Hp) (z : V) : Prop := ∃ x b : Nat, vs = [.int (x : Int), .int (b : Int)] ∧ b ≤ 25 ∧ z = .int (rot x b : Nat)
theorem fn_turn {f : Addr} {fd : FuncData} {k : Nat} (F : Fun K "_law_turn" "_law_turn" s_law_turn f fd) (N : Nb mg) : FnOk P w K mg base CX0 (k + 1) f fd ["word", "bits"] (spV ok_turn_) := by
  refine F.ok sc_law_turn (fun vs H Q E h => ?_) (fun cdv A outer s H vs Q E hr h => ?_)
  · obtain ⟨_, ⟨_, _, rfl, _⟩, _⟩ := h
    rfl
  · obtain ⟨_, ⟨x, b, rfl, hb, rfl⟩, q⟩ := h
    refine ⟨_, (pss_cons (ps_set (i := 2) sc_law_turn.nd rfl (Or.inl rfl) pe_int)
      (pss_cons (ps_for PassesOwn.never rfl (pi_range1 rfl N.range (pa_cons (pv 1) pa_nil)) (pg_name (i := 3) sc_law_turn.nd rfl (Or.inl rfl)) (pss_one (ps_set (i := 2) sc_law_turn.nd rfl (Or.inl rfl) (pe_op op_mul (pv 2) pe_int))))
      (pss_one (ps_ret (pe_op op_add (pe_op op_fdiv (pv 0) (pv 2)) (pe_op op_mul (pe_callTy call_int1 (by rfl) N.int PyProof.Rows.boot_int (pa_cons (pe_op op_mod (pv 0) (pv 2)) pa_nil)) (pe_op op_fdiv pe_int (pv 2)))))))), ?_⟩
    refine q_asg (ev_cn 1) fun H1 e1 => ?_
    refine q_forR1 (ea_cons (ev_v rfl) ea_nil) (by omega) (fun i σ H' => Ex H H' ∧ ∃ y, σ = [some (.int (x : Int)), some (.int (b : Int)), some (.int ((2 ^ i : Nat) : Int)), y]) (fun H2 e2 => ⟨e1.trans e2, _, rfl⟩) ?_ ?_
    · rintro i σ H' hi ⟨e, y, rfl⟩
      exact s_asg (ev_op (ev_v rfl) (ev_cn 2) (rv_mulN (.inr (by decide)))) fun H2 e2 => ⟨e.trans e2, _, rfl⟩
    · rintro σ H' ⟨e, y, rfl⟩
      have p : 0 < 2 ^ b := Nat.pow_pos (by decide)
      have p2 : 2 ^ b < 1073741824 := Nat.lt_of_le_of_lt (Nat.pow_le_pow_right (by decide) hb) (by decide)
      refine s_ret (ev_op (ev_op (ev_v rfl) (ev_v rfl) (rv_divN p p2)) (ev_op (ev_int (ev_op (ev_v rfl) (ev_v rfl) (rv_modN p))) (ev_op (ev_cn 4294967296) (ev_v rfl) (rv_divN p p2)) (rv_mulN (.inl (Nat.lt_trans (Nat.mod_lt _ p) (Nat.lt_trans p2 (by decide)))))) rv_addN) fun H2 e2 => q H2 (e.trans e2)
end
end K01

set_option Elab.async false
set_option linter.all false
set_option maxRecDepth 100000
set_option maxHeartbeats 1000000
namespace K01
open PySem PySem.Spec PyProof.Rows L2 Evl My
/-! ### mathematics of bits -/
theorem xor_step (a b i : Nat) : (a ^^^ b) % 2 ^ (i + 1) = (a ^^^ b) % 2 ^ i + 2 ^ i * ((a / 2 ^ i % 2 + b / 2 ^ i % 2) % 2) := by
  have h1 : (a ^^^ b) / 2 ^ i % 2 = (a / 2 ^ i % 2 + b / 2 ^ i % 2) % 2 := by
    rw [← Nat.shiftRight_eq_div_pow, Nat.shiftRight_xor_distrib, Nat.shiftRight_eq_div_pow, Nat.shiftRight_eq_div_pow]
    have := @Nat.xor_mod_two_eq_one (a / 2 ^ i) (b / 2 ^ i)
    omega
  rw [← h1, Nat.pow_succ, Nat.mod_mul]
theorem and_xor (a b : Nat) : (a + b - (a ^^^ b)) / 2 = a &&& b := by
  have := Bits.nat_xor_add_and a b
  omega
theorem xor_lt32 {a b : Nat} (ha : a < 2 ^ 32) (hb : b < 2 ^ 32) : a ^^^ b < 2 ^ 32 := Nat.xor_lt_two_pow ha hb
section
variable {P : Program} {w : World} {K : PySem.W.Frag} {mg : Str → Option Value} {base : Heap}
abbrev s_law_shift : Stmt := topS 43
theorem sc_law_shift : FnScope ["word", "bits", "power", "step"] ["word", "bits"] (defScope s_law_shift) := ⟨rfl, rfl, rfl, by decide +kernel, rfl, by decide +kernel, by decide +kernel⟩
/- 0 word, 1 bits, 2 power, 3 step -/
def ok_shift_ (vs : List V) (_ : Hp) (z : V) : Prop := ∃ x b : Nat, vs = [.int (x : Int), .int (b : Int)] ∧ b ≤ 25 ∧ z = .int (x / 2 ^ b : Nat)
theorem fn_shift {f : Addr} {fd : FuncData} {k : Nat} (F : Fun K "_law_shift" "_law_shift" s_law_shift f fd) (N : Nb mg) : FnOk P w K mg base CX0 (k + 1) f fd ["word", "bits"] (spV ok_shift_) := by
  refine F.ok sc_law_shift (fun vs H Q E h => ?_) (fun cdv A outer s H vs Q E hr h => ?_)
  · obtain ⟨_, ⟨_, _, rfl, _⟩, _⟩ := h
    rfl
  · obtain ⟨_, ⟨x, b, rfl, hb, rfl⟩, q⟩ := h
    refine ⟨_, (pss_cons (ps_set (i := 2) sc_law_shift.nd rfl (Or.inl rfl) pe_int)
      (pss_cons (ps_for PassesOwn.never rfl (pi_range1 rfl N.range (pa_cons (pv 1) pa_nil)) (pg_name (i := 3) sc_law_shift.nd rfl (Or.inl rfl)) (pss_one (ps_set (i := 2) sc_law_shift.nd rfl (Or.inl rfl) (pe_op op_mul (pv 2) pe_int))))
      (pss_one (ps_ret (pe_op op_fdiv (pv 0) (pv 2)))))), ?_⟩
    refine q_asg (ev_cn 1) fun H1 e1 => ?_
    refine q_forR1 (ea_cons (ev_v rfl) ea_nil) (by omega) (fun i σ H' => Ex H H' ∧ ∃ y, σ = [some (.int (x : Int)), some (.int (b : Int)), some (.int ((2 ^ i : Nat) : Int)), y]) (fun H2 e2 => ⟨e1.trans e2, _, rfl⟩) ?_ ?_
    · rintro i σ H' hi ⟨e, y, rfl⟩
      exact s_asg (ev_op (ev_v rfl) (ev_cn 2) (rv_mulN (.inr (by decide)))) fun H2 e2 => ⟨e.trans e2, _, rfl⟩
    · rintro σ H' ⟨e, y, rfl⟩
      have p : 0 < 2 ^ b := Nat.pow_pos (by decide)
      have p2 : 2 ^ b < 1073741824 := Nat.lt_of_le_of_lt (Nat.pow_le_pow_right (by decide) hb) (by decide)
      exact s_ret (ev_op (ev_v rfl) (ev_v rfl) (rv_divN p p2)) fun H2 e2 => q H2 (e.trans e2)
abbrev s_law_xor : Stmt := topS 41
theorem sc_law_xor : FnScope ["one", "other", "found", "weight", "step"] ["one", "other"] (defScope s_law_xor) := ⟨rfl, rfl, rfl, by decide +kernel, rfl, by decide +kernel, by decide +kernel⟩
/- 0 one, 1 other, 2 found, 3 weight, 4 step -/
def ok_xor_ (vs : List V) (_ : Hp) (z : V) : Prop := ∃ x y : Nat, vs = [.int (x : Int), .int (y : Int)] ∧ x < 2 ^ 32 ∧ y < 2 ^ 32 ∧ z = .int (x ^^^ y : Nat)
theorem fn_xor {f : Addr} {fd : FuncData} {k : Nat} (F : Fun K "_law_xor" "_law_xor" s_law_xor f fd) (N : Nb mg) : FnOk P w K mg base CX0 (k + 1) f fd ["one", "other"] (spV ok_xor_) := by
  refine F.ok sc_law_xor (fun vs H Q E h => ?_) (fun cdv A outer s H vs Q E hr h => ?_)
  · obtain ⟨_, ⟨_, _, rfl, _⟩, _⟩ := h
    rfl
  · obtain ⟨_, ⟨x, b, rfl, hx, hb, rfl⟩, q⟩ := h
    refine ⟨_, (pss_cons (ps_set (i := 2) sc_law_xor.nd rfl (Or.inl rfl) pe_int)
      (pss_cons (ps_set (i := 3) sc_law_xor.nd rfl (Or.inl rfl) pe_int)
      (pss_cons (ps_for PassesOwn.never rfl (pi_range1 rfl N.range (pa_cons pe_int pa_nil)) (pg_name (i := 4) sc_law_xor.nd rfl (Or.inl rfl)) (pss_cons (ps_set (i := 2) sc_law_xor.nd rfl (Or.inl rfl) (pe_op op_add (pv 2) (pe_op op_mul (pv 3) (pe_callTy call_int1 (by rfl) N.int PyProof.Rows.boot_int (pa_cons (pe_op op_mod (pe_op op_add (pe_callTy call_int1 (by rfl) N.int PyProof.Rows.boot_int (pa_cons (pe_op op_mod (pv 0) pe_int) pa_nil)) (pe_callTy call_int1 (by rfl) N.int PyProof.Rows.boot_int (pa_cons (pe_op op_mod (pv 1) pe_int) pa_nil))) pe_int) pa_nil)))))
      (pss_cons (ps_set (i := 0) sc_law_xor.nd rfl (Or.inl rfl) (pe_op op_fdiv (pv 0) pe_int))
      (pss_cons (ps_set (i := 1) sc_law_xor.nd rfl (Or.inl rfl) (pe_op op_fdiv (pv 1) pe_int))
      (pss_one (ps_set (i := 3) sc_law_xor.nd rfl (Or.inl rfl) (pe_op op_mul (pv 3) pe_int)))))))
      (pss_one (ps_ret (pv 2)))))), ?_⟩
    refine q_asg (ev_cn 0) fun H1 e1 => ?_
    refine q_asg (ev_cn 1) fun H2 e2 => ?_
    refine q_forR1 (n := 32) (ea_cons (ev_cn 32) ea_nil) (by omega) (fun i σ H' => Ex H H' ∧ ∃ z, σ = [some (.int ((x / 2 ^ i : Nat) : Int)), some (.int ((b / 2 ^ i : Nat) : Int)), some (.int (((x ^^^ b) % 2 ^ i : Nat) : Int)), some (.int ((2 ^ i : Nat) : Int)), z])
      (fun H3 e3 => ⟨(e1.trans e2).trans e3, none, by simp [Nat.mod_one]; rfl⟩) ?_ ?_
    · rintro i σ H' hi ⟨e, z, rfl⟩
      have pw : 2 ^ i < 2 ^ 64 := Nat.pow_lt_pow_right (by decide) (by omega)
      refine q_asg (ev_op (ev_v rfl) (ev_op (ev_v rfl) (ev_int (ev_op (ev_op (ev_int (ev_op (ev_v rfl) (ev_cn 2) (rv_modN (by decide)))) (ev_int (ev_op (ev_v rfl) (ev_cn 2) (rv_modN (by decide)))) rv_addN) (ev_cn 2) (rv_modN (by decide)))) (rv_mulN (.inl pw))) rv_addN) fun H3 e3 => ?_
      refine q_asg (ev_op (ev_v rfl) (ev_cn 2) (rv_divN (by decide) (by decide))) fun H4 e4 => ?_
      refine q_asg (ev_op (ev_v rfl) (ev_cn 2) (rv_divN (by decide) (by decide))) fun H5 e5 => ?_
      refine s_asg (ev_op (ev_v rfl) (ev_cn 2) (rv_mulN (.inr (by decide)))) fun H6 e6 => ?_
      refine ⟨(((e.trans e3).trans e4).trans e5).trans e6, some (.int (i : Int)), ?_⟩
      rw [xor_step, Nat.pow_succ, ← Nat.div_div_eq_div_mul, ← Nat.div_div_eq_div_mul]
      rfl
    · rintro σ H' ⟨e, z, rfl⟩
      refine s_ret (ev_v rfl) fun H2 e2 => ?_
      have := q H2 (e.trans e2)
      rw [← Nat.mod_eq_of_lt (xor_lt32 hx hb)] at this
      exact this
abbrev s_law_and : Stmt := topS 42
theorem sc_law_and : FnScope ["one", "other"] ["one", "other"] (defScope s_law_and) := ⟨rfl, rfl, rfl, by decide +kernel, rfl, by decide +kernel, by decide +kernel⟩
def ok_and_ (vs : List V) (_ : Hp) (z : V) : Prop := ∃ x y : Nat, vs = [.int (x : Int), .int (y : Int)] ∧ x < 2 ^ 32 ∧ y < 2 ^ 32 ∧ z = .int (x &&& y : Nat)
theorem fn_and {f : Addr} {fd : FuncData} {k : Nat} (F : Fun K "_law_and" "_law_and" s_law_and f fd) (N : Nb mg) (C_law_xor : Cal P w K mg base k "_law_xor" ["one", "other"] (spV ok_xor_)) : FnOk P w K mg base CX0 (k + 1) f fd ["one", "other"] (spV ok_and_) := by
  refine F.ok sc_law_and (fun vs H Q E h => ?_) (fun cdv A outer s H vs Q E hr h => ?_)
  · obtain ⟨_, ⟨_, _, rfl, _⟩, _⟩ := h
    rfl
  · obtain ⟨_, ⟨x, b, rfl, hx, hb, rfl⟩, q⟩ := h
    refine ⟨_, (pss_one (ps_ret (pe_op op_fdiv (pe_op op_sub (pe_op op_add (pv 0) (pv 1)) (pe_cal C_law_xor hr (pa_cons (pv 0) (pa_cons (pv 1) pa_nil)))) pe_int))), ?_⟩
    have le : (x ^^^ b) ≤ x + b := by have := Bits.nat_xor_add_and x b; omega
    refine s_ret (ev_op (ev_op (ev_op (ev_v rfl) (ev_v rfl) rv_addN) (ev_cal (ea_cons (ev_v rfl) (ea_cons (ev_v rfl) ea_nil)) fun _ _ => ⟨x, b, rfl, hx, hb, rfl⟩) (rv_subN le)) (ev_cn 2) (rv_divN (by decide) (by decide))) fun H2 e2 => ?_
    rw [and_xor]
    exact q H2 e2
abbrev s_law_three : Stmt := topS 44
theorem sc_law_three : FnScope ["word", "bits"] ["word", "bits"] (defScope s_law_three) := ⟨rfl, rfl, rfl, by decide +kernel, rfl, by decide +kernel, by decide +kernel⟩
def ok_three_ (K : PySem.W.Frag) (vs : List V) (H : Hp) (z : V) : Prop := ∃ (x a b : Nat) (p : Addr), x < 2 ^ 32 ∧ a ≤ 25 ∧ b ≤ 25 ∧ 0 < a ∧ 0 < b ∧ vs = [.int (x : Int), .ref p] ∧
  ((∃ c : Nat, c ≤ 25 ∧ 0 < c ∧ SqL K H p [.int (a : Int), .int (b : Int), .int (c : Int)] ∧ z = .int (rot x a ^^^ rot x b ^^^ rot x c : Nat)) ∨
   (∃ c d : Nat, d ≤ 25 ∧ SqL K H p [.int (a : Int), .int (b : Int), .int (c : Int), .int (d : Int)] ∧ z = .int (rot x a ^^^ rot x b ^^^ x / 2 ^ d : Nat)))
theorem rot_lt {x b : Nat} (hx : x < 2 ^ 32) (hb : b ≤ 25) (h0 : 0 < b) : rot x b < 2 ^ 32 := by
  unfold rot
  have p : 0 < 2 ^ b := Nat.pow_pos (by decide)
  obtain ⟨c, hc⟩ : ∃ c, b + c = 32 := ⟨32 - b, by omega⟩
  have e : (4294967296 : Nat) = 2 ^ b * 2 ^ c := by rw [← Nat.pow_add, hc]
  have d : 4294967296 / 2 ^ b = 2 ^ c := by rw [e, Nat.mul_comm]; exact Nat.mul_div_cancel _ p
  rw [d]
  have h1 : x / 2 ^ b < 2 ^ c := by
    rw [Nat.div_lt_iff_lt_mul p, ← Nat.pow_add, Nat.add_comm, hc]
    exact hx
  have h2 : x % 2 ^ b * 2 ^ c ≤ (2 ^ b - 1) * 2 ^ c := Nat.mul_le_mul_right _ (by have := Nat.mod_lt x p; omega)
  have h3 : (2 ^ b - 1) * 2 ^ c + 2 ^ c = 2 ^ 32 := by
    rw [Nat.sub_mul, Nat.one_mul, Nat.sub_add_cancel (Nat.le_mul_of_pos_left _ p), ← Nat.pow_add, hc]
  omega
theorem fn_three {f : Addr} {fd : FuncData} {k : Nat} (F : Fun K "_law_three" "_law_three" s_law_three f fd) (N : Nb mg) (C_law_xor : Cal P w K mg base k "_law_xor" ["one", "other"] (spV ok_xor_))
    (C_law_turn : Cal P w K mg base k "_law_turn" ["word", "bits"] (spV ok_turn_)) (C_law_shift : Cal P w K mg base k "_law_shift" ["word", "bits"] (spV ok_shift_)) :
    FnOk P w K mg base CX0 (k + 1) f fd ["word", "bits"] (spV (ok_three_ K)) := by
  refine F.ok sc_law_three (fun vs H Q E h => ?_) (fun cdv A outer s H vs Q E hr h => ?_)
  · obtain ⟨_, ⟨_, _, _, _, _, _, _, _, _, rfl, _⟩, _⟩ := h
    rfl
  · obtain ⟨_, ⟨x, a, b, p, hx, ha, hb, a0, b0, rfl, h⟩, q⟩ := h
    refine ⟨_, (pss_one (ps_ret (pe_cal C_law_xor hr (pa_cons (pe_cal C_law_xor hr (pa_cons (pe_cal C_law_turn hr (pa_cons (pv 0) (pa_cons (pe_ix ix_list (pv 1) pe_int (fun _ _ => rfl)) pa_nil))) (pa_cons (pe_cal C_law_turn hr (pa_cons (pv 0) (pa_cons (pe_ix ix_list (pv 1) pe_int (fun _ _ => rfl)) pa_nil))) pa_nil))) (pa_cons (pe_ifExp (pt_cmpR op_eq (pe_callB call_len_seq (by rfl) N.len PySem.boot_len (pa_cons (pv 1) pa_nil)) pe_int (nomark _)) (pe_cal C_law_turn hr (pa_cons (pv 0) (pa_cons (pe_ix ix_list (pv 1) pe_int (fun _ _ => rfl)) pa_nil))) (pe_cal C_law_shift hr (pa_cons (pv 0) (pa_cons (pe_ix ix_list (pv 1) pe_int (fun _ _ => rfl)) pa_nil)))) pa_nil))))), ?_⟩
    rcases h with ⟨c, hc, c0, hS, rfl⟩ | ⟨c, d, hd, hS, rfl⟩
    · refine s_ret (ev_cal (ea_cons (ev_cal (ea_cons (ev_cal (ea_cons (ev_v rfl) (ea_cons (ev_op (ev_v rfl) (ev_cn 0) (rv_ixLn hS rfl)) ea_nil)) fun _ _ => ⟨x, a, rfl, ha, rfl⟩)
        (ea_cons (ev_cal (ea_cons (ev_v rfl) (ea_cons (ev_op (ev_v rfl) (ev_cn 1) (rv_ixLn hS rfl)) ea_nil)) fun _ _ => ⟨x, b, rfl, hb, rfl⟩) ea_nil)) fun _ _ => ⟨_, _, rfl, rot_lt hx ha a0, rot_lt hx hb b0, rfl⟩)
        (ea_cons (ev_if (b := true) (et_test (ev_op (ev_len (ev_v rfl) hS) ev_c (rv_is (rv_eq rfl) rfl))) (fun _ => ev_cal (ea_cons (ev_v rfl) (ea_cons (ev_op (ev_v rfl) (ev_cn 2) (rv_ixLn hS rfl)) ea_nil)) fun _ _ => ⟨x, c, rfl, hc, rfl⟩) (fun z => nomatch z)) ea_nil))
        fun _ _ => ⟨_, _, rfl, xor_lt32 (rot_lt hx ha a0) (rot_lt hx hb b0), rot_lt hx hc c0, rfl⟩) fun H2 e2 => q H2 e2
    · refine s_ret (ev_cal (ea_cons (ev_cal (ea_cons (ev_cal (ea_cons (ev_v rfl) (ea_cons (ev_op (ev_v rfl) (ev_cn 0) (rv_ixLn hS rfl)) ea_nil)) fun _ _ => ⟨x, a, rfl, ha, rfl⟩)
        (ea_cons (ev_cal (ea_cons (ev_v rfl) (ea_cons (ev_op (ev_v rfl) (ev_cn 1) (rv_ixLn hS rfl)) ea_nil)) fun _ _ => ⟨x, b, rfl, hb, rfl⟩) ea_nil)) fun _ _ => ⟨_, _, rfl, rot_lt hx ha a0, rot_lt hx hb b0, rfl⟩)
        (ea_cons (ev_if (b := false) (et_test (ev_op (ev_len (ev_v rfl) hS) ev_c (rv_is (rv_eq rfl) rfl))) (fun z => nomatch z) (fun _ => ev_cal (ea_cons (ev_v rfl) (ea_cons (ev_op (ev_v rfl) (ev_cn 3) (rv_ixLn hS rfl)) ea_nil)) fun _ _ => ⟨x, d, rfl, hd, rfl⟩)) ea_nil))
        fun _ _ => ⟨_, _, rfl, xor_lt32 (rot_lt hx ha a0) (rot_lt hx hb b0), Nat.lt_of_le_of_lt (Nat.div_le_self _ _) hx, rfl⟩) fun H2 e2 => q H2 e2
end
end K01

set_option Elab.async false
set_option linter.all false
set_option maxRecDepth 100000
set_option maxHeartbeats 1000000
namespace K01
open PySem PySem.Spec PyProof.Rows L2 Evl My
/-! ### SHA-256 in plain numbers -/
def sig (x a b c : Nat) : Nat := rot x a ^^^ rot x b ^^^ rot x c
def ssg (x a b d : Nat) : Nat := rot x a ^^^ rot x b ^^^ x / 2 ^ d
structure R8 where
  (a b c d e f g h : Nat)
def R8.ok (r : R8) : Prop := r.a < 2 ^ 32 ∧ r.b < 2 ^ 32 ∧ r.c < 2 ^ 32 ∧ r.d < 2 ^ 32 ∧ r.e < 2 ^ 32 ∧ r.f < 2 ^ 32 ∧ r.g < 2 ^ 32 ∧ r.h < 2 ^ 32
def R8.list (r : R8) : List Nat := [r.a, r.b, r.c, r.d, r.e, r.f, r.g, r.h]
def fst1 (r : R8) (t w : Nat) : Nat := r.h + sig r.e 6 11 25 + ((r.e &&& r.f) ^^^ ((4294967295 - r.e) &&& r.g)) + t + w
def snd2 (r : R8) : Nat := sig r.a 2 13 22 + ((r.a &&& r.b) ^^^ (r.a &&& r.c) ^^^ (r.b &&& r.c))
def rnd (r : R8) (t w : Nat) : R8 := ⟨(fst1 r t w + snd2 r) % 4294967296, r.a, r.b, r.c, (r.d + fst1 r t w) % 4294967296, r.e, r.f, r.g⟩
def word4 (bl : List Nat) (k : Nat) : Nat := ((bl.getD (4 * k) 0 * 256 + bl.getD (4 * k + 1) 0) * 256 + bl.getD (4 * k + 2) 0) * 256 + bl.getD (4 * k + 3) 0
def wnext (ws : List Nat) (n : Nat) : Nat := (ws.getD (n - 16) 0 + ssg (ws.getD (n - 15) 0) 7 18 3 + ws.getD (n - 7) 0 + ssg (ws.getD (n - 2) 0) 17 19 10) % 4294967296
def wd0 (bl : List Nat) : Nat → List Nat
  | 0 => []
  | k + 1 => wd0 bl k ++ [word4 bl k]
def wds (bl : List Nat) : Nat → List Nat
  | 0 => wd0 bl 16
  | k + 1 => wds bl k ++ [wnext (wds bl k) (16 + k)]
def rnds (r : R8) (ts ws : List Nat) : Nat → R8
  | 0 => r
  | k + 1 => rnd (rnds r ts ws k) (ts.getD k 0) (ws.getD k 0)
def radd (r s : R8) : R8 := ⟨(r.a + s.a) % 4294967296, (r.b + s.b) % 4294967296, (r.c + s.c) % 4294967296, (r.d + s.d) % 4294967296, (r.e + s.e) % 4294967296, (r.f + s.f) % 4294967296, (r.g + s.g) % 4294967296, (r.h + s.h) % 4294967296⟩
/-- a block -/
def blk (r : R8) (bl ts : List Nat) : R8 := radd r (rnds r ts (wds bl 48) 64)
theorem wd0_len (bl : List Nat) : ∀ k, (wd0 bl k).length = k
  | 0 => rfl
  | k + 1 => by rw [wd0, List.length_append, wd0_len bl k]; rfl
theorem wds_len (bl : List Nat) : ∀ k, (wds bl k).length = 16 + k
  | 0 => wd0_len bl 16
  | k + 1 => by rw [wds, List.length_append, wds_len bl k]; rfl
theorem wnext_lt (ws : List Nat) (n : Nat) : wnext ws n < 2 ^ 32 := Nat.mod_lt _ (by decide)
def Oct (bl : List Nat) : Prop := ∀ x ∈ bl, x < 256
theorem Oct.get {bl : List Nat} (h : Oct bl) (i : Nat) : bl.getD i 0 < 256 := by
  rw [List.getD_eq_getElem?_getD]
  cases e : bl[i]? with
  | none => decide
  | some x => exact h x (List.mem_of_getElem? e)
theorem word4_lt {bl : List Nat} (h : Oct bl) (k : Nat) : word4 bl k < 2 ^ 32 := by
  have h0 := h.get (4 * k)
  have h1 := h.get (4 * k + 1)
  have h2 := h.get (4 * k + 2)
  have h3 := h.get (4 * k + 3)
  unfold word4
  omega
theorem wd0_lt {bl : List Nat} (h : Oct bl) : ∀ k, ∀ x ∈ wd0 bl k, x < 2 ^ 32
  | 0, x, hx => by simp [wd0] at hx
  | k + 1, x, hx => by
    rw [wd0, List.mem_append, List.mem_singleton] at hx
    rcases hx with hx | rfl
    · exact wd0_lt h k x hx
    · exact word4_lt h k
theorem wds_lt {bl : List Nat} (h : Oct bl) : ∀ k, ∀ x ∈ wds bl k, x < 2 ^ 32
  | 0, x, hx => wd0_lt h 16 x hx
  | k + 1, x, hx => by
    rw [wds, List.mem_append, List.mem_singleton] at hx
    rcases hx with hx | rfl
    · exact wds_lt h k x hx
    · exact wnext_lt _ _
theorem getD_lt {ws : List Nat} {m : Nat} (h : ∀ x ∈ ws, x < m) (hm : 0 < m) (i : Nat) : ws.getD i 0 < m := by
  rw [List.getD_eq_getElem?_getD]
  cases e : ws[i]? with
  | none => exact hm
  | some x => exact h x (List.mem_of_getElem? e)
theorem sig_lt {x a b c : Nat} (hx : x < 2 ^ 32) (ha : a ≤ 25) (hb : b ≤ 25) (hc : c ≤ 25) (a0 : 0 < a) (b0 : 0 < b) (c0 : 0 < c) : sig x a b c < 2 ^ 32 := xor_lt32 (xor_lt32 (rot_lt hx ha a0) (rot_lt hx hb b0)) (rot_lt hx hc c0)
theorem ssg_lt {x a b d : Nat} (hx : x < 2 ^ 32) (ha : a ≤ 25) (hb : b ≤ 25) (a0 : 0 < a) (b0 : 0 < b) : ssg x a b d < 2 ^ 32 := xor_lt32 (xor_lt32 (rot_lt hx ha a0) (rot_lt hx hb b0)) (Nat.lt_of_le_of_lt (Nat.div_le_self _ _) hx)
theorem and_lt32 {a b : Nat} (ha : a < 2 ^ 32) : a &&& b < 2 ^ 32 := Nat.lt_of_le_of_lt Nat.and_le_left ha
theorem rnd_ok {r : R8} (h : r.ok) (t w : Nat) : (rnd r t w).ok := by
  obtain ⟨h1, h2, h3, h4, h5, h6, h7, h8⟩ := h
  exact ⟨Nat.mod_lt _ (by decide), h1, h2, h3, Nat.mod_lt _ (by decide), h5, h6, h7⟩
theorem rnds_ok {r : R8} (h : r.ok) (ts ws : List Nat) : ∀ k, (rnds r ts ws k).ok
  | 0 => h
  | k + 1 => rnd_ok (rnds_ok h ts ws k) _ _
theorem radd_ok (r s : R8) : (radd r s).ok := ⟨Nat.mod_lt _ (by decide), Nat.mod_lt _ (by decide), Nat.mod_lt _ (by decide), Nat.mod_lt _ (by decide), Nat.mod_lt _ (by decide), Nat.mod_lt _ (by decide), Nat.mod_lt _ (by decide), Nat.mod_lt _ (by decide)⟩
theorem blk_ok (r : R8) (bl ts : List Nat) : (blk r bl ts).ok := radd_ok _ _
/-! the program's way to the same -/
theorem mask32 (x : Nat) : x &&& 4294967295 = x % 4294967296 := Nat.and_two_pow_sub_one_eq_mod x 32
theorem rot_or {x a : Nat} (b : Nat) (hx : x < 2 ^ 32) (hab : a + b = 32) : (x >>> a ||| x <<< b) % 4294967296 = rot x a := by
  have pa : 0 < 2 ^ a := Nat.pow_pos (by decide)
  have e32 : (4294967296 : Nat) = 2 ^ b * 2 ^ a := by rw [← Nat.pow_add, Nat.add_comm b a, hab]
  have hlt : x / 2 ^ a < 2 ^ b := by
    rw [Nat.div_lt_iff_lt_mul pa, ← e32]
    exact hx
  have h1 : x >>> a ||| x <<< b = x <<< b + x / 2 ^ a := by
    rw [Nat.or_comm, Nat.shiftRight_eq_div_pow, Nat.shiftLeft_eq, Nat.mul_comm]
    exact (Nat.two_pow_add_eq_or_of_lt hlt x).symm
  have d : 4294967296 / 2 ^ a = 2 ^ b := by rw [e32]; exact Nat.mul_div_cancel _ pa
  unfold rot
  rw [h1, d, Nat.shiftLeft_eq]
  have h2 : x = 2 ^ a * (x / 2 ^ a) + x % 2 ^ a := (Nat.div_add_mod x (2 ^ a)).symm
  have h3 : x * 2 ^ b = x / 2 ^ a * 4294967296 + x % 2 ^ a * 2 ^ b := by
    conv => lhs; rw [h2]
    rw [Nat.add_mul, e32, Nat.mul_comm (2 ^ a) (x / 2 ^ a), Nat.mul_assoc, Nat.mul_comm (2 ^ a) (2 ^ b)]
  have h4 : x / 2 ^ a + x % 2 ^ a * 2 ^ b < 4294967296 := by
    have z1 : x % 2 ^ a + 1 ≤ 2 ^ a := Nat.mod_lt x pa
    have z2 : (x % 2 ^ a + 1) * 2 ^ b ≤ 2 ^ a * 2 ^ b := Nat.mul_le_mul_right _ z1
    rw [Nat.add_mul, Nat.one_mul, Nat.mul_comm (2 ^ a) (2 ^ b), ← e32] at z2
    omega
  rw [h3]
  omega
theorem sig_prog {x a b c : Nat} (a' b' c' : Nat) (hx : x < 2 ^ 32) (ha : a + a' = 32) (hb : b + b' = 32) (hc : c + c' = 32) :
    ((x >>> a ||| x <<< a') ^^^ (x >>> b ||| x <<< b') ^^^ (x >>> c ||| x <<< c')) &&& 4294967295 = sig x a b c := by
  rw [mask32, show (4294967296 : Nat) = 2 ^ 32 from rfl, Nat.xor_mod_two_pow, Nat.xor_mod_two_pow]
  have e := rot_or a' hx ha
  have e2 := rot_or b' hx hb
  have e3 := rot_or c' hx hc
  rw [show (4294967296 : Nat) = 2 ^ 32 from rfl] at e e2 e3
  rw [e, e2, e3]
  rfl
theorem ssg_prog {x a b d : Nat} (a' b' : Nat) (hx : x < 2 ^ 32) (ha : a + a' = 32) (hb : b + b' = 32) :
    ((x >>> a ||| x <<< a') ^^^ (x >>> b ||| x <<< b') ^^^ x >>> d) &&& 4294967295 = ssg x a b d := by
  rw [mask32, show (4294967296 : Nat) = 2 ^ 32 from rfl, Nat.xor_mod_two_pow, Nat.xor_mod_two_pow]
  have e := rot_or a' hx ha
  have e2 := rot_or b' hx hb
  rw [show (4294967296 : Nat) = 2 ^ 32 from rfl] at e e2
  have e3 : x >>> d % 2 ^ 32 = x / 2 ^ d := by
    rw [Nat.shiftRight_eq_div_pow]
    exact Nat.mod_eq_of_lt (Nat.lt_of_le_of_lt (Nat.div_le_self _ _) hx)
  rw [e, e2, e3]
  rfl
theorem not_and {x y : Nat} (hx : x < 2 ^ 32) : (4294967295 - x) &&& y = (y % 2 ^ 32) - ((y % 2 ^ 32) &&& x) := by
  have h : ∀ i, ((4294967295 - x) &&& y).testBit i = ((y % 2 ^ 32) ^^^ ((y % 2 ^ 32) &&& x)).testBit i := fun i => by
    rw [Nat.testBit_and, Nat.testBit_xor, Nat.testBit_and, show 4294967295 - x = 2 ^ 32 - (x + 1) by omega, Nat.testBit_two_pow_sub_succ hx, Nat.testBit_mod_two_pow]
    cases decide (i < 32) <;> cases x.testBit i <;> cases y.testBit i <;> rfl
  rw [Nat.eq_of_testBit_eq h]
  have e := Bits.nat_xor_add_and (y % 2 ^ 32) ((y % 2 ^ 32) &&& x)
  have e2 : (y % 2 ^ 32) &&& ((y % 2 ^ 32) &&& x) = (y % 2 ^ 32) &&& x := by rw [← Nat.and_assoc, Nat.and_self]
  rw [e2] at e
  omega
theorem word_or {a b c d : Nat} (hb : b < 256) (hc : c < 256) (hd : d < 256) : (a <<< 24 ||| b <<< 16 ||| c <<< 8 ||| d) = ((a * 256 + b) * 256 + c) * 256 + d := by
  have o : ∀ (i q r : Nat), r < 2 ^ i → q <<< i ||| r = q * 2 ^ i + r := fun i q r h => by
    rw [Nat.shiftLeft_eq, Nat.mul_comm q]
    exact (Nat.two_pow_add_eq_or_of_lt h q).symm
  have e1 : c <<< 8 ||| d = c * 256 + d := o 8 c d hd
  have e2 : b <<< 16 ||| (c * 256 + d) = b * 65536 + (c * 256 + d) := o 16 b _ (by omega)
  have e3 : a <<< 24 ||| (b * 65536 + (c * 256 + d)) = a * 16777216 + (b * 65536 + (c * 256 + d)) := o 24 a _ (by omega)
  rw [Nat.or_assoc, Nat.or_assoc, e1, e2, e3]
  omega
end K01

set_option Elab.async false
set_option linter.all false
set_option maxRecDepth 100000
set_option maxHeartbeats 4000000
namespace K01
open PySem PySem.Spec PyProof.Rows L2 Evl My
section
variable {P : Program} {w : World} {K : PySem.W.Frag} {mg : Str → Option Value} {base : Heap}
abbrev s_law_block : Stmt := topS 45
theorem sc_law_block : FnScope ["state", "block", "turns", "words", "k", "low", "high", "row", "pick", "first", "most", "second"] ["state", "block", "turns"] (defScope s_law_block) := ⟨rfl, rfl, rfl, by decide +kernel, rfl, by decide +kernel, by decide +kernel⟩
/- 0 state*, 1 block, 2 turns, 3 words, 4 k, 5 low, 6 high, 7 row*, 8 pick, 9 first, 10 most, 11 second -/
def ok_block_ (K : PySem.W.Frag) (vs : List V) (H : Hp) (z : List V) : Prop := ∃ (r : R8) (bl ts : List Nat) (a b c : Addr), vs = [.ref a, .ref b, .ref c] ∧ r.ok ∧ Oct bl ∧ bl.length = 64 ∧ ts.length = 64 ∧
  SqL K H a (nats r.list) ∧ SqL K H b (nats bl) ∧ SqL K H c (nats ts) ∧ z = nats (blk r bl ts).list
theorem radd_map (r R : R8) : (List.range 8).map (fun i => V.int (((r.list.getD i 0 + R.list.getD i 0) % 4294967296 : Nat) : Int)) = nats (radd r R).list := by
  obtain ⟨_, _, _, _, _, _, _, _⟩ := r
  obtain ⟨_, _, _, _, _, _, _, _⟩ := R
  simp [List.range_succ, R8.list, radd, nats]
theorem ev_three {K : PySem.W.Frag} {σ : L2.St} {H : Hp} {te tl : TE} {x a b c : Nat} (h : Ev te σ H (.int (x : Int))) (hl : EvL tl σ H [.int (a : Int), .int (b : Int), .int (c : Int)]) (hx : x < 2 ^ 32) (ha : a ≤ 25) (hb : b ≤ 25) (hc : c ≤ 25) (a0 : 0 < a) (b0 : 0 < b) (c0 : 0 < c) :
    Ev (tCall (spV (ok_three_ K)) [] E0 (tCons te (tCons tl tNil))) σ H (.int (sig x a b c : Nat)) :=
  ev_calP (eap_v h (eap_l hl eap_nil)) fun vs H1 e hp => by
    obtain ⟨_, rfl, p, _, rfl, hp, rfl⟩ := hp
    exact ⟨x, a, b, p, hx, ha, hb, a0, b0, rfl, .inl ⟨c, hc, c0, sq_of hp, rfl⟩⟩
theorem ev_four {K : PySem.W.Frag} {σ : L2.St} {H : Hp} {te tl : TE} {x a b c d : Nat} (h : Ev te σ H (.int (x : Int))) (hl : EvL tl σ H [.int (a : Int), .int (b : Int), .int (c : Int), .int (d : Int)]) (hx : x < 2 ^ 32) (ha : a ≤ 25) (hb : b ≤ 25) (hd : d ≤ 25) (a0 : 0 < a) (b0 : 0 < b) :
    Ev (tCall (spV (ok_three_ K)) [] E0 (tCons te (tCons tl tNil))) σ H (.int (ssg x a b d : Nat)) :=
  ev_calP (eap_v h (eap_l hl eap_nil)) fun vs H1 e hp => by
    obtain ⟨_, rfl, p, _, rfl, hp, rfl⟩ := hp
    exact ⟨x, a, b, p, hx, ha, hb, a0, b0, rfl, .inr ⟨c, d, hd, sq_of hp, rfl⟩⟩
theorem ev_xor {σ : L2.St} {H : Hp} {ta tb : TE} {x y : Nat} (ha : Ev ta σ H (.int (x : Int))) (hb : Ev tb σ H (.int (y : Int))) (hx : x < 2 ^ 32) (hy : y < 2 ^ 32) : Ev (tCall (spV ok_xor_) [] E0 (tCons ta (tCons tb tNil))) σ H (.int (x ^^^ y : Nat)) :=
  ev_cal (ea_cons ha (ea_cons hb ea_nil)) fun _ _ => ⟨x, y, rfl, hx, hy, rfl⟩
theorem ev_and {σ : L2.St} {H : Hp} {ta tb : TE} {x y : Nat} (ha : Ev ta σ H (.int (x : Int))) (hb : Ev tb σ H (.int (y : Int))) (hx : x < 2 ^ 32) (hy : y < 2 ^ 32) : Ev (tCall (spV ok_and_) [] E0 (tCons ta (tCons tb tNil))) σ H (.int (x &&& y : Nat)) :=
  ev_cal (ea_cons ha (ea_cons hb ea_nil)) fun _ _ => ⟨x, y, rfl, hx, hy, rfl⟩
theorem fn_block {f : Addr} {fd : FuncData} {k : Nat} (F : Fun K "_law_block" "_law_block" s_law_block f fd) (N : Nb mg) (C_law_xor : Cal P w K mg base k "_law_xor" ["one", "other"] (spV ok_xor_))
    (C_law_and : Cal P w K mg base k "_law_and" ["one", "other"] (spV ok_and_)) (C_law_three : Cal P w K mg base k "_law_three" ["word", "bits"] (spV (ok_three_ K))) :
    FnOk P w K mg base CX0 (k + 1) f fd ["state", "block", "turns"] (spL (ok_block_ K)) := by
  refine F.ok sc_law_block (fun vs H Q E h => ?_) (fun cdv A outer s H vs Q E hr h => ?_)
  · obtain ⟨_, ⟨_, _, _, _, _, _, rfl, _⟩, _⟩ := h
    rfl
  · obtain ⟨_, ⟨r, bl, ts, a, b, c, rfl, hr8, hoct, hbl, hts, hA, hB, hC, rfl⟩, q⟩ := h
    refine ⟨_, (pss_cons (ps_set (i := 3) sc_law_block.nd rfl (Or.inl rfl) (pe_lst pa_nil))
      (pss_cons (ps_for PassesOwn.never rfl (pi_range1 rfl N.range (pa_cons pe_int pa_nil)) (pg_name (i := 4) sc_law_block.nd rfl (Or.inl rfl)) (pss_one (ps_expr (pe_bm PySem.F.plainAttrs_list PySem.F.slot_list_append PySem.F.type_list_append mt_append (pv 3) (pa_cons (pe_op op_add (pe_op op_mul (pe_op op_add (pe_op op_mul (pe_op op_add (pe_op op_mul (pe_ix ix_list (pv 1) (pe_op op_mul pe_int (pv 4)) (fun _ _ => rfl)) pe_int) (pe_ix ix_list (pv 1) (pe_op op_add (pe_op op_mul pe_int (pv 4)) pe_int) (fun _ _ => rfl))) pe_int) (pe_ix ix_list (pv 1) (pe_op op_add (pe_op op_mul pe_int (pv 4)) pe_int) (fun _ _ => rfl))) pe_int) (pe_ix ix_list (pv 1) (pe_op op_add (pe_op op_mul pe_int (pv 4)) pe_int) (fun _ _ => rfl))) pa_nil)))))
      (pss_cons (ps_for PassesOwn.never rfl (pi_range2 rfl N.range (pa_cons pe_int (pa_cons pe_int pa_nil))) (pg_name (i := 4) sc_law_block.nd rfl (Or.inl rfl)) (pss_cons (ps_set (i := 5) sc_law_block.nd rfl (Or.inl rfl) (pe_cal C_law_three hr (pa_cons (pe_ix ix_list (pv 3) (pe_op op_sub (pv 4) pe_int) (fun _ _ => rfl)) (pa_cons (pe_lst (pa_cons pe_int (pa_cons pe_int (pa_cons pe_int (pa_cons pe_int pa_nil))))) pa_nil))))
      (pss_cons (ps_set (i := 6) sc_law_block.nd rfl (Or.inl rfl) (pe_cal C_law_three hr (pa_cons (pe_ix ix_list (pv 3) (pe_op op_sub (pv 4) pe_int) (fun _ _ => rfl)) (pa_cons (pe_lst (pa_cons pe_int (pa_cons pe_int (pa_cons pe_int (pa_cons pe_int pa_nil))))) pa_nil))))
      (pss_one (ps_expr (pe_bm PySem.F.plainAttrs_list PySem.F.slot_list_append PySem.F.type_list_append mt_append (pv 3) (pa_cons (pe_callTy call_int1 (by rfl) N.int PyProof.Rows.boot_int (pa_cons (pe_op op_mod (pe_op op_add (pe_op op_add (pe_op op_add (pe_ix ix_list (pv 3) (pe_op op_sub (pv 4) pe_int) (fun _ _ => rfl)) (pv 5)) (pe_ix ix_list (pv 3) (pe_op op_sub (pv 4) pe_int) (fun _ _ => rfl))) (pv 6)) pe_int) pa_nil)) pa_nil)))))))
      (pss_cons (ps_set (i := 7) sc_law_block.nd rfl (Or.inr rfl) (pe_callTy call_list_of (by rfl) N.list PyProof.Rows.boot_list (pa_cons (pv 0) pa_nil)))
      (pss_cons (ps_for PassesOwn.never rfl (pi_range1 rfl N.range (pa_cons pe_int pa_nil)) (pg_name (i := 4) sc_law_block.nd rfl (Or.inl rfl)) (pss_cons (ps_set (i := 8) sc_law_block.nd rfl (Or.inl rfl) (pe_cal C_law_xor hr (pa_cons (pe_cal C_law_and hr (pa_cons (pe_ix ix_list (pv 7) pe_int (fun _ _ => rfl)) (pa_cons (pe_ix ix_list (pv 7) pe_int (fun _ _ => rfl)) pa_nil))) (pa_cons (pe_cal C_law_and hr (pa_cons (pe_op op_sub pe_int (pe_ix ix_list (pv 7) pe_int (fun _ _ => rfl))) (pa_cons (pe_ix ix_list (pv 7) pe_int (fun _ _ => rfl)) pa_nil))) pa_nil))))
      (pss_cons (ps_set (i := 9) sc_law_block.nd rfl (Or.inl rfl) (pe_op op_add (pe_op op_add (pe_op op_add (pe_op op_add (pe_ix ix_list (pv 7) pe_int (fun _ _ => rfl)) (pe_cal C_law_three hr (pa_cons (pe_ix ix_list (pv 7) pe_int (fun _ _ => rfl)) (pa_cons (pe_lst (pa_cons pe_int (pa_cons pe_int (pa_cons pe_int pa_nil)))) pa_nil)))) (pv 8)) (pe_ix ix_list (pv 2) (pv 4) (fun _ _ => rfl))) (pe_ix ix_list (pv 3) (pv 4) (fun _ _ => rfl))))
      (pss_cons (ps_set (i := 10) sc_law_block.nd rfl (Or.inl rfl) (pe_cal C_law_xor hr (pa_cons (pe_cal C_law_xor hr (pa_cons (pe_cal C_law_and hr (pa_cons (pe_ix ix_list (pv 7) pe_int (fun _ _ => rfl)) (pa_cons (pe_ix ix_list (pv 7) pe_int (fun _ _ => rfl)) pa_nil))) (pa_cons (pe_cal C_law_and hr (pa_cons (pe_ix ix_list (pv 7) pe_int (fun _ _ => rfl)) (pa_cons (pe_ix ix_list (pv 7) pe_int (fun _ _ => rfl)) pa_nil))) pa_nil))) (pa_cons (pe_cal C_law_and hr (pa_cons (pe_ix ix_list (pv 7) pe_int (fun _ _ => rfl)) (pa_cons (pe_ix ix_list (pv 7) pe_int (fun _ _ => rfl)) pa_nil))) pa_nil))))
      (pss_cons (ps_set (i := 11) sc_law_block.nd rfl (Or.inl rfl) (pe_op op_add (pe_cal C_law_three hr (pa_cons (pe_ix ix_list (pv 7) pe_int (fun _ _ => rfl)) (pa_cons (pe_lst (pa_cons pe_int (pa_cons pe_int (pa_cons pe_int pa_nil)))) pa_nil))) (pv 10)))
      (pss_one (ps_set (i := 7) sc_law_block.nd rfl (Or.inr rfl) (pe_op op_cat (pe_op op_cat (pe_op op_cat (pe_lst (pa_cons (pe_callTy call_int1 (by rfl) N.int PyProof.Rows.boot_int (pa_cons (pe_op op_mod (pe_op op_add (pv 9) (pv 11)) pe_int) pa_nil)) pa_nil)) (pe_slice sl_list (pv 7) po_none (po_some pe_int))) (pe_lst (pa_cons (pe_callTy call_int1 (by rfl) N.int PyProof.Rows.boot_int (pa_cons (pe_op op_mod (pe_op op_add (pe_ix ix_list (pv 7) pe_int (fun _ _ => rfl)) (pv 9)) pe_int) pa_nil)) pa_nil))) (pe_slice sl_list (pv 7) (po_some pe_int) (po_some pe_int))))))))))
      (pss_one (ps_ret (pe_lc (own := [("k", 4)]) (by rfl) sc_law_block.nd (pi_range1 rfl N.range (pa_cons pe_int pa_nil)) (blkOk_by (own := [("k", 4)]) (N := ["state", "block", "turns", "words", "k", "low", "high", "row", "pick", "first", "most", "second"]) (sc := defScope s_law_block) (by decide +kernel)) (fun _ _ _ _ _ => (pg_name (i := 4) sc_law_block.nd rfl (Or.inl rfl))) (fun _ _ _ _ _ => pts_nil) (fun _ _ _ _ _ => (pe_callTy call_int1 (by rfl) N.int PyProof.Rows.boot_int (pa_cons (pe_op op_mod (pe_op op_add (pe_ix (r := rIxL K) ix_list (pv 0) (pv 4) (fun _ _ => rfl)) (pe_ix (r := rIxL K) ix_list (pv 7) (pv 4) (fun _ _ => rfl))) pe_int) pa_nil))))))))))), ?_⟩
    -- words = []
    refine q_asgL (el_lst ea_nil (by decide)) fun p H1 hp e1 h1 => ?_
    -- sixteen words
    refine q_forR1N (n := 16) (ea_cons (ev_cn 16) ea_nil) (by decide) (fun i σ H' => Ex H H' ∧ H' p = some (.lst (nats (wd0 bl i))) ∧ ∃ y, σ = [some (.ref a), some (.ref b), some (.ref c), some (.ref p), y, none, none, none, none, none, none, none])
      (fun H2 e2 => ⟨e1.trans e2, e2 p _ h1, none, rfl⟩) ?_ ?_
    · rintro i σ H' hi ⟨e, hw, y, rfl⟩
      have hB' := ex_l e hB
      have g : ∀ j, j < 64 → (nats bl)[j]? = some (.int ((bl.getD j 0 : Nat) : Int)) := fun j hj => nats_get (by omega)
      have lt := fun j => hoct.get j
      refine s_app hw (ev_v rfl) (ev_op (ev_op (ev_op (ev_op (ev_op (ev_op (ev_ixL (ev_v rfl) (ev_op (ev_cn 4) (ev_v rfl) (rv_mulN (.inl (by decide)))) hB' (g _ (by omega))) (ev_cn 256) (rv_mulN (.inr (by decide))))
        (ev_ixL (ev_v rfl) (ev_op (ev_op (ev_cn 4) (ev_v rfl) (rv_mulN (.inl (by decide)))) (ev_cn 1) rv_addN) hB' (g _ (by omega))) rv_addN) (ev_cn 256) (rv_mulN (.inr (by decide))))
        (ev_ixL (ev_v rfl) (ev_op (ev_op (ev_cn 4) (ev_v rfl) (rv_mulN (.inl (by decide)))) (ev_cn 2) rv_addN) hB' (g _ (by omega))) rv_addN) (ev_cn 256) (rv_mulN (.inr (by decide))))
        (ev_ixL (ev_v rfl) (ev_op (ev_op (ev_cn 4) (ev_v rfl) (rv_mulN (.inl (by decide)))) (ev_cn 3) rv_addN) hB' (g _ (by omega))) rv_addN) (by rw [nats_len, wd0_len]; omega) fun H2 e2 => ?_
      refine ⟨(e.trans e2).mut hp, ?_, some (.int (i : Int)), rfl⟩
      rw [upd_same, wd0, nats_app]
      rfl
    rintro σ H2 ⟨e2, h2, y, rfl⟩
    -- the others
    refine q_forR2N (lo := 16) (n := 64) (ea_cons (ev_cn 16) (ea_cons (ev_cn 64) ea_nil)) (by decide) (fun i σ H' => Ex H H' ∧ H' p = some (.lst (nats (wds bl i))) ∧ ∃ y y5 y6, σ = [some (.ref a), some (.ref b), some (.ref c), some (.ref p), y, y5, y6, none, none, none, none, none])
      (fun H3 e3 => ⟨e2.trans e3, e3 p _ h2, _, _, _, rfl⟩) ?_ ?_
    · rintro i σ H' hi ⟨e, hw, y, y5, y6, rfl⟩
      have wl := wds_len bl i
      have lt := getD_lt (wds_lt hoct i) (by decide)
      have g : ∀ j, j < 16 + i → (nats (wds bl i))[j]? = some (.int (((wds bl i).getD j 0 : Nat) : Int)) := fun j hj => nats_get (by omega)
      have ix : ∀ (d : Nat), d ≤ 16 → 0 < d → ∀ σ' H3, Ex H' H3 → σ'[3]? = some (some (.ref p)) → σ'[4]? = some (some (.int ((16 + i : Nat) : Int))) → Ev (tOp (rIxL K) (tVar 3) (tOp (rI0 fun i j => .int (i - j)) (tVar 4) (tC (.int (d : Int))))) σ' H3 (.int (((wds bl i).getD (16 + i - d) 0 : Nat) : Int)) :=
        fun d hd d0 σ' H3 e3 s3 s4 => ev_ixL (ev_v s3) (ev_op (ev_v s4) (ev_cn d) (rv_subN (by omega))) (sq_of (e3 p _ hw)) (g _ (by omega))
      refine q_asg (ev_four (ix 15 (by decide) (by decide) _ _ (Ex.refl _) rfl rfl) (el_lst (ea_cons (ev_cn 7) (ea_cons (ev_cn 18) (ea_cons (ev_cn 0) (ea_cons (ev_cn 3) ea_nil)))) (by decide)) (lt _) (by decide) (by decide) (by decide) (by decide) (by decide)) fun H3 e3 => ?_
      refine q_asg (ev_four (ix 2 (by decide) (by decide) _ _ e3 rfl rfl) (el_lst (ea_cons (ev_cn 17) (ea_cons (ev_cn 19) (ea_cons (ev_cn 0) (ea_cons (ev_cn 10) ea_nil)))) (by decide)) (lt _) (by decide) (by decide) (by decide) (by decide) (by decide)) fun H4 e4 => ?_
      refine s_app (e4 p _ (e3 p _ hw)) (ev_v rfl) (ev_int (ev_op (ev_op (ev_op (ev_op (ix 16 (by decide) (by decide) _ _ (e3.trans e4) rfl rfl) (ev_v rfl) rv_addN) (ix 7 (by decide) (by decide) _ _ (e3.trans e4) rfl rfl) rv_addN) (ev_v rfl) rv_addN) (ev_cn 4294967296) (rv_modN (by decide)))) (by rw [nats_len]; omega) fun H5 e5 => ?_
      refine ⟨(((e.trans e3).trans e4).trans e5).mut hp, ?_, _, _, _, rfl⟩
      rw [upd_same, wds, nats_app]
      rfl
    rintro σ H3 ⟨e3, h3, y, y5, y6, rfl⟩
    have hWl : (wds bl 48).length = 64 := wds_len bl 48
    replace h3 : H3 p = some (.lst (nats (wds bl 48))) := h3
    have eblk : blk r bl ts = radd r (rnds r ts (wds bl 48) 64) := rfl
    rw [eblk] at q
    clear eblk
    generalize wds bl 48 = W at h3 hWl q
    -- row = list(state)
    refine q_asgL (el_list (ev_v rfl) (ex_l e3 hA)) fun p2 H4 hp2 e4 h4 => ?_
    -- the turns
    refine q_forR1N (n := 64) (ea_cons (ev_cn 64) ea_nil) (by decide) (fun i σ H' => Ex H3 H' ∧ ∃ p2 y y8 y9 y10 y11, H' p2 = some (.lst (nats (rnds r ts W i).list)) ∧ σ = [some (.ref a), some (.ref b), some (.ref c), some (.ref p), y, y5, y6, some (.ref p2), y8, y9, y10, y11])
      (fun H5 e5 => ⟨e4.trans e5, p2, _, _, _, _, _, e5 p2 _ h4, rfl⟩) ?_ ?_
    · rintro i σ H' hi ⟨e, p2, y, y8, y9, y10, y11, hR, rfl⟩
      obtain ⟨l1, l2, l3, l4, l5, l6, l7, l8⟩ := rnds_ok hr8 ts W i
      generalize hr' : rnds r ts W i = r' at hR l1 l2 l3 l4 l5 l6 l7 l8
      have hC' := ex_l (e3.trans e) hC
      have hW : SqL K H' p (nats W) := sq_of (e p _ h3)
      have gw : (nats W)[i]? = some (.int ((W.getD i 0 : Nat) : Int)) := nats_get (by omega)
      have gt : (nats ts)[i]? = some (.int ((ts.getD i 0 : Nat) : Int)) := nats_get (by omega)
      have hS := fun H5 (e5 : Ex H' H5) => (sq_of (e5 p2 _ hR) : SqL K H5 p2 (nats r'.list))
      have nt : 4294967295 - r'.e < 2 ^ 32 := by omega
      -- pick
      refine q_asg (ev_xor (ev_and (ev_ixL (j := 4) (v := .int (r'.e : Int)) (ev_v rfl) (ev_cn 4) (hS _ (Ex.refl _)) rfl) (ev_ixL (j := 5) (v := .int (r'.f : Int)) (ev_v rfl) (ev_cn 5) (hS _ (Ex.refl _)) rfl) l5 l6)
        (ev_and (ev_op (ev_cn 4294967295) (ev_ixL (j := 4) (v := .int (r'.e : Int)) (ev_v rfl) (ev_cn 4) (hS _ (Ex.refl _)) rfl) (rv_subN (by omega))) (ev_ixL (j := 6) (v := .int (r'.g : Int)) (ev_v rfl) (ev_cn 6) (hS _ (Ex.refl _)) rfl) nt l7) (and_lt32 l5) (and_lt32 nt)) fun H5 e5 => ?_
      -- first
      refine q_asg (v := .int (fst1 r' (ts.getD i 0) (W.getD i 0) : Nat)) (ev_op (ev_op (ev_op (ev_op (ev_ixL (j := 7) (v := .int (r'.h : Int)) (ev_v rfl) (ev_cn 7) (hS _ e5) rfl)
        (ev_three (ev_ixL (j := 4) (v := .int (r'.e : Int)) (ev_v rfl) (ev_cn 4) (hS _ e5) rfl) (el_lst (ea_cons (ev_cn 6) (ea_cons (ev_cn 11) (ea_cons (ev_cn 25) ea_nil))) (by decide)) l5 (by decide) (by decide) (by decide) (by decide) (by decide) (by decide)) rv_addN)
        (ev_v rfl) rv_addN) (ev_ixL (ev_v rfl) (ev_v rfl) (ex_l e5 hC') gt) rv_addN) (ev_ixL (ev_v rfl) (ev_v rfl) (ex_l e5 hW) gw) rv_addN) fun H6 e6 => ?_
      -- most
      refine q_asg (ev_xor (ev_xor (ev_and (ev_ixL (j := 0) (v := .int (r'.a : Int)) (ev_v rfl) (ev_cn 0) (hS _ (e5.trans e6)) rfl) (ev_ixL (j := 1) (v := .int (r'.b : Int)) (ev_v rfl) (ev_cn 1) (hS _ (e5.trans e6)) rfl) l1 l2)
        (ev_and (ev_ixL (j := 0) (v := .int (r'.a : Int)) (ev_v rfl) (ev_cn 0) (hS _ (e5.trans e6)) rfl) (ev_ixL (j := 2) (v := .int (r'.c : Int)) (ev_v rfl) (ev_cn 2) (hS _ (e5.trans e6)) rfl) l1 l3) (and_lt32 l1) (and_lt32 l1))
        (ev_and (ev_ixL (j := 1) (v := .int (r'.b : Int)) (ev_v rfl) (ev_cn 1) (hS _ (e5.trans e6)) rfl) (ev_ixL (j := 2) (v := .int (r'.c : Int)) (ev_v rfl) (ev_cn 2) (hS _ (e5.trans e6)) rfl) l2 l3) (xor_lt32 (and_lt32 l1) (and_lt32 l1)) (and_lt32 l2)) fun H7 e7 => ?_
      -- second
      refine q_asg (v := .int (snd2 r' : Nat)) (ev_op (ev_three (ev_ixL (j := 0) (v := .int (r'.a : Int)) (ev_v rfl) (ev_cn 0) (hS _ ((e5.trans e6).trans e7)) rfl) (el_lst (ea_cons (ev_cn 2) (ea_cons (ev_cn 13) (ea_cons (ev_cn 22) ea_nil))) (by decide)) l1 (by decide) (by decide) (by decide) (by decide) (by decide) (by decide)) (ev_v rfl) rv_addN) fun H8 e8 => ?_
      -- row
      have eR := ((e5.trans e6).trans e7).trans e8
      refine s_asgL (xs := nats (rnd r' (ts.getD i 0) (W.getD i 0)).list) (el_cat (el_cat (el_cat (el_lst (ea_cons (ev_int (ev_op (ev_op (ev_v rfl) (ev_v rfl) rv_addN) (ev_cn 4294967296) (rv_modN (by decide)))) ea_nil) (by show 1 ≤ 100000; decide) |> evl_n)
        (evl_n (el_sl (ev_v rfl) eo_none (eo_some (ev_cn 3)) (hS _ eR))) (by show 4 ≤ 100000; decide) |> evl_n)
        (el_lst (ea_cons (ev_int (ev_op (ev_op (ev_ixL (j := 3) (v := .int (r'.d : Int)) (ev_v rfl) (ev_cn 3) (hS _ eR) rfl) (ev_v rfl) rv_addN) (ev_cn 4294967296) (rv_modN (by decide)))) ea_nil) (by show 1 ≤ 100000; decide) |> evl_n) (by show 5 ≤ 100000; decide) |> evl_n)
        (evl_n (el_sl (ev_v rfl) (eo_some (ev_cn 4)) (eo_some (ev_cn 7)) (hS _ eR))) (by show 8 ≤ 100000; decide)) fun p3 H9 hp3 e9 h9 => ?_
      refine ⟨(e.trans eR).trans e9, p3, _, _, _, _, _, ?_, rfl⟩
      rw [rnds, hr']
      exact h9
    rintro σ H5 ⟨e5, p3, y, y8, y9, y10, y11, hR, rfl⟩
    have hA' := ex_l (e3.trans e5) hA
    generalize rnds r ts W 64 = R at hR q
    have hS : SqL K H5 p3 (nats R.list) := sq_of hR
    have ge : ∀ (x : R8) (i : Nat), i < 8 → (nats x.list)[i]? = some (.int ((x.list.getD i 0 : Nat) : Int)) := fun x i hi => nats_get hi
    refine s_retL (el_lcR1 (n := ((8 : Nat) : Int)) (fun _ => true) (fun i => .int (((r.list.getD i 0 + R.list.getD i 0) % 4294967296 : Nat) : Int)) (ea_cons (ev_cn 8) ea_nil) (by omega) (fun _ => rfl) (fun i H6 e6 hi => fun H7 e7 Q' q' => q' H7 (Ex.refl _))
      (fun i H6 e6 hi _ => ev_int (ev_op (ev_op (ev_ixL (ev_v rfl) (ev_v rfl) (ex_l e6 hA') (ge _ _ (by omega))) (ev_ixL (ev_v rfl) (ev_v rfl) (ex_l e6 hS) (ge _ _ (by omega))) rv_addN) (ev_cn 4294967296) (rv_modN (by decide))))) fun p4 H6 hp4 e6 h6 => ?_
    rw [Int.toNat_natCast, given_all, radd_map] at h6
    exact q p4 H6 (fresh_back (e3.trans e5) hp4) ((e3.trans e5).trans e6) h6
end
end K01

set_option Elab.async false
set_option linter.all false
set_option maxRecDepth 100000
set_option maxHeartbeats 4000000
namespace K01
open PySem PySem.Spec PyProof.Rows L2 Evl My
/-! ### roots and primes -/
def pw (cube : Bool) (m : Nat) : Nat := if cube then m * m * m else m * m
def rootL (n : Nat) (cube : Bool) : Nat → Nat → Nat → Nat
  | 0, l, _ => l
  | k + 1, l, h => if pw cube ((l + h) / 2) ≤ n then (if h - (l + h) / 2 ≤ 1 then (l + h) / 2 else rootL n cube k ((l + h) / 2) h) else (if (l + h) / 2 - l ≤ 1 then l else rootL n cube k l ((l + h) / 2))
def rootN (n : Nat) (cube : Bool) : Nat := rootL n cube 41 0 1099511627776 % 4294967296
section
variable {P : Program} {w : World} {K : PySem.W.Frag} {mg : Str → Option Value} {base : Heap}
abbrev s_law_root : Stmt := topS 38
theorem sc_law_root : FnScope ["number", "cube", "low", "high", "step", "middle", "power"] ["number", "cube"] (defScope s_law_root) := ⟨rfl, rfl, rfl, by decide +kernel, rfl, by decide +kernel, by decide +kernel⟩
/- 0 number, 1 cube, 2 low, 3 high, 4 step, 5 middle, 6 power -/
def ok_root_ (vs : List V) (_ : Hp) (z : V) : Prop := ∃ (x : Nat) (c : Bool), vs = [.int (x : Int), .bl c] ∧ z = .int (rootN x c : Nat)
theorem fn_root {f : Addr} {fd : FuncData} {k : Nat} (F : Fun K "_law_root" "_law_root" s_law_root f fd) (N : Nb mg) : FnOk P w K mg base CX0 (k + 1) f fd ["number", "cube"] (spV ok_root_) := by
  refine F.ok sc_law_root (fun vs H Q E h => ?_) (fun cdv A outer s H vs Q E hr h => ?_)
  · obtain ⟨_, ⟨_, _, rfl, _⟩, _⟩ := h
    rfl
  · obtain ⟨_, ⟨x, c, rfl, rfl⟩, q⟩ := h
    refine ⟨_, (pss_cons (ps_set (i := 2) sc_law_root.nd rfl (Or.inl rfl) pe_int)
      (pss_cons (ps_set (i := 3) sc_law_root.nd rfl (Or.inl rfl) pe_int)
      (pss_cut (ps_for PassesOwn.never rfl (pi_range1 rfl N.range (pa_cons pe_int pa_nil)) (pg_name (i := 4) sc_law_root.nd rfl (Or.inl rfl)) (pss_cons (ps_set (i := 5) sc_law_root.nd rfl (Or.inl rfl) (pe_op op_fdiv (pe_op op_add (pv 2) (pv 3)) pe_int))
      (pss_cons (ps_set (i := 6) sc_law_root.nd rfl (Or.inl rfl) (pe_ifExp (pt_val (pv 1)) (pe_op op_mulW (pe_op op_mulW (pv 5) (pv 5)) (pv 5)) (pe_op op_mulW (pv 5) (pv 5))))
      (pss_cons (ps_if (pt_cmpR op_le (pv 6) (pv 0) (nomark _)) (pss_one (ps_set (i := 2) sc_law_root.nd rfl (Or.inl rfl) (pv 5))) (pss_one (ps_set (i := 3) sc_law_root.nd rfl (Or.inl rfl) (pv 5))))
      (pss_one (ps_if (pt_cmpR op_le (pe_op op_sub (pv 3) (pv 2)) pe_int (nomark _)) (pss_one ps_break) pss_nil))))))
      (pss_one (ps_ret (pe_callTy call_int1 (by rfl) N.int PyProof.Rows.boot_int (pa_cons (pe_op op_mod (pv 2) pe_int) pa_nil))))))), ?_⟩
    refine q_asg (ev_cn 0) fun H1 e1 => ?_
    refine q_asg (ev_cn 1099511627776) fun H2 e2 => ?_
    refine q_cut (M := fun σ H' => Ex H H' ∧ ∃ (l h : Nat) (y z u : Option V), l % 4294967296 = rootN x c ∧ σ = [some (.int (x : Int)), some (.bl c), some (.int (l : Int)), some (.int (h : Int)), y, z, u])
      (s_forR1N (n := 41) (ea_cons (ev_cn 41) ea_nil) (by decide) (fun i σ H' => Ex H H' ∧ ∃ (l h : Nat) (y z u : Option V), rootL x c (41 - i) l h % 4294967296 = rootN x c ∧ l ≤ h ∧ h ≤ 1099511627776 ∧ σ = [some (.int (x : Int)), some (.bl c), some (.int (l : Int)), some (.int (h : Int)), y, z, u])
        (fun H3 e3 => ⟨(e1.trans e2).trans e3, 0, 1099511627776, _, _, _, rfl, by decide, by decide, rfl⟩) ?_ ?_) ?_
    · rintro i σ H' hi ⟨e, l, h, y, z, u, hroot, hl, hh, rfl⟩
      refine q_asg (ev_op (ev_op (ev_v rfl) (ev_v rfl) rv_addN) (ev_cn 2) (rv_divN (by decide) (by decide))) fun H3 e3 => ?_
      have lm : l ≤ (l + h) / 2 := by omega
      have mh : (l + h) / 2 ≤ h := by omega
      generalize hm : (l + h) / 2 = m at lm mh
      have m40 : m < 2 ^ 41 := by omega
      have mm : m * m < 2 ^ 82 := by
        have := Nat.mul_lt_mul'' m40 m40
        rw [← Nat.pow_add] at this
        exact this
      refine q_asg (v := .int (pw c m : Nat)) ?_ fun H4 e4 => ?_
      · cases c with
        | true => exact ev_if (b := true) (et_B (ev_v rfl)) (fun _ => ev_op (ev_op (ev_v rfl) (ev_v rfl) (rv_mulWN m40 m40 (by decide) (by decide) (by decide))) (ev_v rfl) (rv_mulWN mm m40 (by decide) (by decide) (by decide))) (fun z => nomatch z)
        | false => exact ev_if (b := false) (et_B (ev_v rfl)) (fun z => nomatch z) (fun _ => ev_op (ev_v rfl) (ev_v rfl) (rv_mulWN m40 m40 (by decide) (by decide) (by decide)))
      have e41 : 41 - i = (41 - (i + 1)) + 1 := by omega
      rw [e41, rootL, hm] at hroot
      have E := (e.trans e3).trans e4
      refine q_if (b := decide (pw c m ≤ x)) (et_test (ev_op (ev_v rfl) (ev_v rfl) (rv_is rv_I0 (by simp)))) (fun hb H5 e5 => ?_) (fun hb H5 e5 => ?_)
      · rw [if_pos (of_decide_eq_true hb)] at hroot
        refine s_asg (ev_v rfl) fun H6 e6 => ?_
        refine s_when (b := decide (h - m ≤ 1)) (et_test (ev_op (ev_op (ev_v rfl) (ev_v rfl) (rv_subN mh)) (ev_cn 1) (rv_is rv_I0 (by simp; omega)))) (fun hb2 H7 e7 => ?_) (fun hb2 H7 e7 => ?_)
        · rw [if_pos (of_decide_eq_true hb2)] at hroot
          exact ⟨((E.trans e5).trans e6).trans e7, m, h, _, _, _, hroot, rfl⟩
        · rw [if_neg (of_decide_eq_false hb2)] at hroot
          exact ⟨((E.trans e5).trans e6).trans e7, m, h, _, _, _, hroot, mh, hh, rfl⟩
      · rw [if_neg (of_decide_eq_false hb)] at hroot
        refine s_asg (ev_v rfl) fun H6 e6 => ?_
        refine s_when (b := decide (m - l ≤ 1)) (et_test (ev_op (ev_op (ev_v rfl) (ev_v rfl) (rv_subN lm)) (ev_cn 1) (rv_is rv_I0 (by simp; omega)))) (fun hb2 H7 e7 => ?_) (fun hb2 H7 e7 => ?_)
        · rw [if_pos (of_decide_eq_true hb2)] at hroot
          exact ⟨((E.trans e5).trans e6).trans e7, l, m, _, _, _, hroot, rfl⟩
        · rw [if_neg (of_decide_eq_false hb2)] at hroot
          exact ⟨((E.trans e5).trans e6).trans e7, l, m, _, _, _, hroot, lm, by omega, rfl⟩
    · rintro σ H' ⟨e, l, h, y, z, u, hroot, hl, hh, rfl⟩
      exact ⟨e, l, h, y, z, u, hroot, rfl⟩
    · rintro σ H' ⟨e, l, h, y, z, u, hroot, rfl⟩
      refine s_ret (ev_int (ev_op (ev_v rfl) (ev_cn 4294967296) (rv_modN (by decide)))) fun H3 e3 => ?_
      rw [hroot]
      exact q H3 (e.trans e3)
/-! primes -/
def divs (found : List Nat) (n i : Nat) : Bool := n % found.getD i 0 == 0
def pstep (found : List Nat) (n : Nat) : List Nat := if (given found.length (divs found n) (fun i => .int (found.getD i 0 : Nat))).length = 0 then found ++ [n] else found
def primesN : Nat → List Nat
  | 0 => []
  | k + 1 => pstep (primesN k) (2 + k)
theorem pstep_len (f : List Nat) (n : Nat) : (pstep f n).length ≤ f.length + 1 := by
  unfold pstep
  split
  · rw [List.length_append]; exact Nat.le_refl _
  · omega
theorem primes_len : ∀ k, (primesN k).length ≤ k
  | 0 => Nat.le_refl _
  | k + 1 => Nat.le_trans (pstep_len _ _) (Nat.succ_le_succ (primes_len k))
theorem primes_pos : ∀ k, ∀ x ∈ primesN k, 0 < x
  | 0, x, h => by simp [primesN] at h
  | k + 1, x, h => by
    rw [primesN] at h
    unfold pstep at h
    split at h
    · rw [List.mem_append, List.mem_singleton] at h
      rcases h with h | rfl
      · exact primes_pos k x h
      · omega
    · exact primes_pos k x h
abbrev s_law_primes : Stmt := topS 39
theorem sc_law_primes : FnScope ["found", "number", "prime"] [] (defScope s_law_primes) := ⟨rfl, rfl, rfl, by decide +kernel, rfl, by decide +kernel, by decide +kernel⟩
/- 0 found, 1 number*, 2 prime -/
def ok_primes_ (vs : List V) (_ : Hp) (z : List V) : Prop := vs = [] ∧ z = nats ((primesN 310).take 64)
theorem fn_primes {f : Addr} {fd : FuncData} {k : Nat} (F : Fun K "_law_primes" "_law_primes" s_law_primes f fd) (N : Nb mg) : FnOk P w K mg base CX0 (k + 1) f fd [] (spL ok_primes_) := by
  refine F.ok sc_law_primes (fun vs H Q E h => ?_) (fun cdv A outer s H vs Q E hr h => ?_)
  · obtain ⟨_, ⟨rfl, _⟩, _⟩ := h
    rfl
  · obtain ⟨_, ⟨rfl, rfl⟩, q⟩ := h
    refine ⟨_, (pss_cons (ps_set (i := 0) sc_law_primes.nd rfl (Or.inl rfl) (pe_lst pa_nil))
      (pss_cons (ps_for PassesOwn.never rfl (pi_range2 rfl N.range (pa_cons pe_int (pa_cons pe_int pa_nil))) (pg_name (i := 1) sc_law_primes.nd rfl (Or.inr rfl)) (pss_one (ps_if (pt_cmpR op_eq (pe_callB call_len_seq (by rfl) N.len PySem.boot_len (pa_cons (pe_lc (own := [("prime", 2)]) (by rfl) sc_law_primes.nd (pi_list (pv 0)) (blkOk_by (own := [("prime", 2)]) (N := ["found", "number", "prime"]) (sc := defScope s_law_primes) (by decide +kernel)) (fun _ _ _ _ _ => (pg_name (i := 2) sc_law_primes.nd rfl (Or.inl rfl))) (fun _ _ _ _ _ => (pts_one (pt_cmpR op_eq (pe_callTy call_int1 (by rfl) N.int PyProof.Rows.boot_int (pa_cons (pe_op op_mod (pv 1) (pv 2)) pa_nil)) pe_int (nomark _)))) (fun _ _ _ _ _ => (pv 2))) pa_nil)) pe_int (nomark _)) (pss_one (ps_expr (pe_bm PySem.F.plainAttrs_list PySem.F.slot_list_append PySem.F.type_list_append mt_append (pv 0) (pa_cons (pv 1) pa_nil)))) pss_nil)))
      (pss_one (ps_ret (pe_slice sl_list (pv 0) po_none (po_some pe_int)))))), ?_⟩
    refine q_asgL (el_lst ea_nil (by decide)) fun p H1 hp e1 h1 => ?_
    refine q_forR2N (lo := 2) (n := 312) (ea_cons (ev_cn 2) (ea_cons (ev_cn 312) ea_nil)) (by decide) (fun i σ H' => Ex H H' ∧ H' p = some (.lst (nats (primesN i))) ∧ i ≤ 310 ∧ ∃ y z, σ = [some (.ref p), y, z])
      (fun H2 e2 => ⟨e1.trans e2, e2 p _ h1, Nat.zero_le _, _, _, rfl⟩) ?_ ?_
    · rintro i σ H' hi ⟨e, hw, hi2, y, z, rfl⟩
      have pl := primes_len i
      have pp := primes_pos i
      refine s_when (b := decide ((given (primesN i).length (divs (primesN i) (2 + i)) (fun j => .int ((primesN i).getD j 0 : Nat))).length = 0))
        (et_test (ev_op (ev_lenN (el_lcL (xs := nats (primesN i)) (divs (primesN i) (2 + i)) (fun j => .int ((primesN i).getD j 0 : Nat)) (ev_v rfl) (sq_of hw) (by rw [nats_len]; omega) (fun _ => rfl) (fun j x H2 e2 hx => ?_) (fun j x H2 e2 hx _ => ?_))) (ev_cn 0) (rv_is (rv_eq rfl) ?_)))
        (fun hb H2 e2 => ?_) (fun hb H2 e2 => ?_)
      · obtain ⟨rfl, hj⟩ := getD_of hx
        refine et_test (ev_op (ev_int (ev_op (ev_v rfl) (ev_v rfl) (rv_modN (pp _ (getD_mem hj))))) (ev_cn 0) (rv_is (rv_eq rfl) ?_))
        unfold divs
        rw [dec_int]
        congr 1
        rw [Bool.eq_iff_iff]
        simp only [beq_iff_eq]
        omega
      · obtain ⟨rfl, hj⟩ := getD_of hx
        exact ev_v rfl
      · rw [nats_len, dec_int]
        congr 1
        rw [Bool.eq_iff_iff]
        simp only [beq_iff_eq, decide_eq_true_eq]
        omega
      · refine s_app (e2 p _ hw) (ev_v rfl) (ev_v rfl) (by rw [nats_len]; omega) fun H3 e3 => ?_
        refine ⟨((e.trans e2).trans e3).mut hp, ?_, by omega, _, _, rfl⟩
        rw [upd_same, primesN, pstep, if_pos (of_decide_eq_true hb), nats_app]
        rfl
      · refine ⟨e.trans e2, ?_, by omega, _, _, rfl⟩
        rw [primesN, pstep, if_neg (of_decide_eq_false hb)]
        exact e2 p _ hw
    · rintro σ H' ⟨e, hw, hi2, y, z, rfl⟩
      refine s_retL (el_sl (ev_v rfl) eo_none (eo_some (ev_cn 64)) (sq_of hw)) fun p2 H2 hp2 e2 h2 => ?_
      refine q p2 H2 (fresh_back e hp2) (e.trans e2) ?_
      rw [h2]
      exact congrArg (fun l => some (HO.lst l)) ((cutV_take _ 64).trans (nats_take _ _).symm)
end
end K01

set_option Elab.async false
set_option linter.all false
set_option maxRecDepth 100000
set_option maxHeartbeats 4000000
namespace K01
open PySem PySem.Spec PyProof.Rows L2 Evl My
def turnsC : List Nat := [1116352408, 1899447441, 3049323471, 3921009573, 961987163, 1508970993, 2453635748, 2870763221, 3624381080, 310598401, 607225278, 1426881987, 1925078388, 2162078206, 2614888103, 3248222580, 3835390401, 4022224774, 264347078, 604807628, 770255983, 1249150122, 1555081692, 1996064986, 2554220882, 2821834349, 2952996808, 3210313671, 3336571891, 3584528711, 113926993, 338241895, 666307205, 773529912, 1294757372, 1396182291, 1695183700, 1986661051, 2177026350, 2456956037, 2730485921, 2820302411, 3259730800, 3345764771, 3516065817, 3600352804, 4094571909, 275423344, 430227734, 506948616, 659060556, 883997877, 958139571, 1322822218, 1537002063, 1747873779, 1955562222, 2024104815, 2227730452, 2361852424, 2428436474, 2756734187, 3204031479, 3329325298]
def firstC : R8 := ⟨1779033703, 3144134277, 1013904242, 2773480762, 1359893119, 2600822924, 528734635, 1541459225⟩
def primesC : List Nat := (primesN 310).take 64
theorem primesC_small : ∀ p ∈ primesC, p < 512 := by decide +kernel
theorem primesC_len : primesC.length = 64 := by decide +kernel
theorem turns_eq : primesC.map (fun p => rootN (p * 79228162514264337593543950336) true) = turnsC := by decide +kernel
theorem first_eq : (primesC.take 8).map (fun p => rootN (p * 18446744073709551616) false) = firstC.list := by decide +kernel
theorem first_ok : firstC.ok := by unfold R8.ok; decide
/-! the row that is hashed, its end, the digits -/
def tailL (b : Nat) : Nat → List Nat
  | 0 => []
  | k + 1 => (b / 256 ^ k % 256) :: tailL b k
theorem tailL_len (b : Nat) : ∀ k, (tailL b k).length = k
  | 0 => rfl
  | k + 1 => by rw [tailL, List.length_cons, tailL_len b k]
def padL (data : List Nat) : List Nat := data ++ [128] ++ List.replicate (55 - data.length) 0 ++ tailL (8 * data.length) 8
theorem padL_len {data : List Nat} (h : data.length ≤ 55) : (padL data).length = 64 := by
  unfold padL
  rw [List.length_append, List.length_append, List.length_append, List.length_replicate, tailL_len, List.length_singleton]
  omega
def hexd : List Nat := [48, 49, 50, 51, 52, 53, 54, 55, 56, 57, 97, 98, 99, 100, 101, 102]
theorem hex_str : (Str.ofString "0123456789abcdef") = tx hexd := by decide +kernel
theorem hex_get {n : Nat} (h : n < 16) : hexd[n]? = some (hexd.getD n 0) := by
  rw [List.getD_eq_getElem?_getD, List.getElem?_eq_getElem (show n < hexd.length from h)]
  rfl
def hexL (w : Nat) : Nat → List Nat
  | 0 => []
  | k + 1 => hexd.getD (w / 16 ^ k % 16) 0 :: hexL w k
theorem hexL_len (w : Nat) : ∀ k, (hexL w k).length = k
  | 0 => rfl
  | k + 1 => by rw [hexL, List.length_cons, hexL_len w k]
def hexR (ws : List Nat) : List Nat := ws.flatMap fun w => hexL w 8
theorem hexR_len : ∀ ws : List Nat, (hexR ws).length = 8 * ws.length
  | [] => rfl
  | w :: r => by
    have := hexR_len r
    unfold hexR at this ⊢
    rw [List.flatMap_cons, List.length_append, hexL_len, this, List.length_cons]
    omega
theorem hexR_take {ws : List Nat} {j : Nat} (h : j < ws.length) : hexR (ws.take (j + 1)) = hexR (ws.take j) ++ hexL (ws.getD j 0) 8 := by
  unfold hexR
  rw [List.take_add_one, List.getElem?_eq_getElem h, List.flatMap_append, List.getD_eq_getElem?_getD, List.getElem?_eq_getElem h]
  simp
/-- one block -/
def sha1 (data : List Nat) : List Nat := hexR (blk firstC (padL data) turnsC).list
theorem oct_app {a b : List Nat} (ha : Oct a) (hb : Oct b) : Oct (a ++ b) := fun x hx => (List.mem_append.mp hx).elim (ha x) (hb x)
theorem oct_tail (b : Nat) : ∀ k, Oct (tailL b k)
  | 0 => fun x hx => by simp [tailL] at hx
  | k + 1 => fun x hx => by
    rw [tailL, List.mem_cons] at hx
    rcases hx with rfl | hx
    · exact Nat.mod_lt _ (by decide)
    · exact oct_tail b k x hx
theorem oct_rep (k : Nat) : Oct (List.replicate k 0) := fun x hx => by rw [(List.mem_replicate.mp hx).2]; decide
theorem oct_pad {data : List Nat} (h : Oct data) : Oct (padL data) := oct_app (oct_app (oct_app h fun x hx => by rw [List.mem_singleton.mp hx]; decide) (oct_rep _)) (oct_tail _ _)
section
variable {P : Program} {w : World} {K : PySem.W.Frag} {mg : Str → Option Value} {base : Heap}
abbrev s_law_sha : Stmt := topS 46
theorem sc_law_sha : FnScope ["data", "primes", "turns", "prime", "state", "bits", "filled", "tail", "step", "at", "found", "word", "digits"] ["data"] (defScope s_law_sha) := ⟨rfl, rfl, rfl, by decide +kernel, rfl, by decide +kernel, by decide +kernel⟩
/- 0 data, 1 primes, 2 turns, 3 prime, 4 state, 5 bits, 6 filled, 7 tail, 8 step, 9 at, 10 found, 11 word, 12 digits -/
def ok_lsha_ (K : PySem.W.Frag) (vs : List V) (H : Hp) (z : V) : Prop := ∃ (a : Addr) (data : List Nat), vs = [.ref a] ∧ H a = some (.lst (nats data)) ∧ data.length ≤ 54 ∧ Oct data ∧ z = .str (tx (sha1 data))
theorem fn_lsha {f : Addr} {fd : FuncData} {k : Nat} (F : Fun K "_law_sha" "_law_sha" s_law_sha f fd) (N : Nb mg) (C_law_primes : Cal P w K mg base k "_law_primes" [] (spL ok_primes_)) (C_law_root : Cal P w K mg base k "_law_root" ["number", "cube"] (spV ok_root_))
    (C_law_block : Cal P w K mg base k "_law_block" ["state", "block", "turns"] (spL (ok_block_ K))) : FnOk P w K mg base CX0 (k + 1) f fd ["data"] (spV (ok_lsha_ K)) := by
  refine F.ok sc_law_sha (fun vs H Q E h => ?_) (fun cdv A outer s H vs Q E hr h => ?_)
  · obtain ⟨_, ⟨_, _, rfl, _⟩, _⟩ := h
    rfl
  · obtain ⟨_, ⟨a, data, rfl, hA, h54, hoct, rfl⟩, q⟩ := h
    refine ⟨_, (pss_cons (ps_set (i := 1) sc_law_sha.nd rfl (Or.inl rfl) (pe_cal0 C_law_primes hr))
      (pss_cons (ps_setLc (i := 2) (own := [("prime", 3)]) (by rfl) sc_law_sha.nd rfl rfl (sw_true rfl rfl rfl (by decide +kernel)) (pi_list (pv 1)) (blkOk_by (own := [("prime", 3)]) (N := ["data", "primes", "turns", "prime", "state", "bits", "filled", "tail", "step", "at", "found", "word", "digits"]) (sc := defScope s_law_sha) (by decide +kernel)) (fun _ _ _ _ _ => (pg_name (i := 3) sc_law_sha.nd rfl (Or.inl rfl))) (fun _ _ _ _ _ => pts_nil) (fun _ _ _ _ _ => (pe_cal C_law_root hr (pa_cons (pe_op op_mulW (pv 3) pe_int) (pa_cons pe_bl pa_nil)))))
      (pss_cons (ps_setLc (i := 4) (own := [("prime", 3)]) (by rfl) sc_law_sha.nd rfl rfl (sw_true rfl rfl rfl (by decide +kernel)) (pi_list (pe_slice sl_list (pv 1) po_none (po_some pe_int))) (blkOk_by (own := [("prime", 3)]) (N := ["data", "primes", "turns", "prime", "state", "bits", "filled", "tail", "step", "at", "found", "word", "digits"]) (sc := defScope s_law_sha) (by decide +kernel)) (fun _ _ _ _ _ => (pg_name (i := 3) sc_law_sha.nd rfl (Or.inl rfl))) (fun _ _ _ _ _ => pts_nil) (fun _ _ _ _ _ => (pe_cal C_law_root hr (pa_cons (pe_op op_mulW (pv 3) pe_int) (pa_cons pe_bl pa_nil)))))
      (pss_cons (ps_set (i := 5) sc_law_sha.nd rfl (Or.inl rfl) (pe_op op_mulW pe_int (pe_callB call_len_seq (by rfl) N.len PySem.boot_len (pa_cons (pv 0) pa_nil))))
      (pss_cons (ps_set (i := 6) sc_law_sha.nd rfl (Or.inl rfl) (pe_op op_cat (pe_op op_cat (pv 0) (pe_lst (pa_cons pe_int pa_nil))) (pe_op op_rep (pe_lst (pa_cons pe_int pa_nil)) (pe_callTy call_int1 (by rfl) N.int PyProof.Rows.boot_int (pa_cons (pe_op op_mod (pe_op op_sub pe_int (pe_callB call_len_seq (by rfl) N.len PySem.boot_len (pa_cons (pv 0) pa_nil))) pe_int) pa_nil)))))
      (pss_cons (ps_set (i := 7) sc_law_sha.nd rfl (Or.inl rfl) (pe_lst pa_nil))
      (pss_cons (ps_for PassesOwn.never rfl (pi_range1 rfl N.range (pa_cons pe_int pa_nil)) (pg_name (i := 8) sc_law_sha.nd rfl (Or.inl rfl)) (pss_cons (ps_set (i := 7) sc_law_sha.nd rfl (Or.inl rfl) (pe_op op_cat (pe_lst (pa_cons (pe_callTy call_int1 (by rfl) N.int PyProof.Rows.boot_int (pa_cons (pe_op op_mod (pv 5) pe_int) pa_nil)) pa_nil)) (pv 7)))
      (pss_one (ps_set (i := 5) sc_law_sha.nd rfl (Or.inl rfl) (pe_op op_fdiv (pv 5) pe_int)))))
      (pss_cons (ps_set (i := 6) sc_law_sha.nd rfl (Or.inl rfl) (pe_op op_cat (pv 6) (pv 7)))
      (pss_cons (ps_for PassesOwn.never rfl (pi_range1 rfl N.range (pa_cons (pe_op op_fdiv (pe_callB call_len_seq (by rfl) N.len PySem.boot_len (pa_cons (pv 6) pa_nil)) pe_int) pa_nil)) (pg_name (i := 9) sc_law_sha.nd rfl (Or.inl rfl)) (pss_one (ps_set (i := 4) sc_law_sha.nd rfl (Or.inl rfl) (pe_cal C_law_block hr (pa_cons (pv 4) (pa_cons (pe_slice sl_list (pv 6) (po_some (pe_op op_mulW pe_int (pv 9))) (po_some (pe_op op_add (pe_op op_mulW pe_int (pv 9)) pe_int))) (pa_cons (pv 2) pa_nil)))))))
      (pss_cons (ps_set (i := 10) sc_law_sha.nd rfl (Or.inl rfl) pe_str)
      (pss_cons (ps_for PassesOwn.never rfl (pi_list (pv 4)) (pg_name (i := 11) sc_law_sha.nd rfl (Or.inl rfl)) (pss_cons (ps_set (i := 12) sc_law_sha.nd rfl (Or.inl rfl) pe_str)
      (pss_cons (ps_for PassesOwn.never rfl (pi_range1 rfl N.range (pa_cons pe_int pa_nil)) (pg_name (i := 8) sc_law_sha.nd rfl (Or.inl rfl)) (pss_cons (ps_set (i := 12) sc_law_sha.nd rfl (Or.inl rfl) (pe_op op_add_str (pe_ix ix_str pe_str (pe_callTy call_int1 (by rfl) N.int PyProof.Rows.boot_int (pa_cons (pe_op op_mod (pv 11) pe_int) pa_nil)) (fun _ _ => rfl)) (pv 12)))
      (pss_one (ps_set (i := 11) sc_law_sha.nd rfl (Or.inl rfl) (pe_op op_fdiv (pv 11) pe_int)))))
      (pss_one (ps_set (i := 10) sc_law_sha.nd rfl (Or.inl rfl) (pe_op op_add_str (pv 10) (pv 12)))))))
      (pss_one (ps_ret (pv 10)))))))))))))), ?_⟩
    -- primes
    refine q_asgL (xs := nats primesC) (el_cal ea_nil fun H1 e1 => ⟨rfl, rfl⟩) fun p1 H1 hp1 e1 h1 => ?_
    have hpr := primesC_small
    have hpl := primesC_len
    have ht := turns_eq
    have hf := first_eq
    have hfo := first_ok
    have esha : sha1 data = hexR (blk firstC (padL data) turnsC).list := rfl
    rw [esha] at q
    have htl : turnsC.length = 64 := by rw [← ht, List.length_map]; exact hpl
    generalize primesC = PR at h1 hpr hpl ht hf
    generalize turnsC = TC at ht htl q
    generalize firstC = FC at hf hfo q
    -- turns
    refine q_asgL (el_lcL (xs := nats PR) (fun _ => true) (fun i => .int (rootN (PR.getD i 0 * 79228162514264337593543950336) true : Nat)) (ev_v rfl) (sq_of h1) (by rw [nats_len]; omega) (fun _ => rfl) (fun _ _ _ _ _ => et_yes) (fun i x H2 e2 hx _ => ?_)) fun p2 H2 hp2 e2 h2 => ?_
    · obtain ⟨rfl, hi⟩ := getD_of hx
      have := hpr _ (getD_mem hi)
      exact ev_cal (ea_cons (ev_op (ev_v rfl) (ev_cn 79228162514264337593543950336) (rv_mulWN (n := 9) (m := 97) this (by decide) (by decide) (by decide) (by decide))) (ea_cons ev_c ea_nil)) fun _ _ => ⟨_, _, rfl, rfl⟩
    rw [nats_len, given_nats PR (fun p => rootN (p * 79228162514264337593543950336) true), ht] at h2
    -- state
    have hsl := (cutV_take (nats PR) 8).trans (nats_take PR 8).symm
    have h8 : (PR.take 8).length = 8 := by rw [List.length_take]; omega
    refine q_asgL (el_lcNL (xs := nats (PR.take 8)) (fun _ => true) (fun i => .int (rootN ((PR.take 8).getD i 0 * 18446744073709551616) false : Nat)) (by rw [← hsl]; exact el_sl (ev_v rfl) eo_none (eo_some (ev_cn 8)) (sq_of (e2 p1 _ h1))) (by rw [nats_len]; omega) (fun _ => rfl) (fun _ _ _ _ _ => et_yes) (fun i x H3 e3 hx _ => ?_)) fun p3 H3 hp3 e3 h3 => ?_
    · obtain ⟨rfl, hi⟩ := getD_of hx
      have := hpr _ (List.mem_of_mem_take (getD_mem hi))
      exact ev_cal (ea_cons (ev_op (ev_v rfl) (ev_cn 18446744073709551616) (rv_mulWN (n := 9) (m := 65) this (by decide) (by decide) (by decide) (by decide))) (ea_cons ev_c ea_nil)) fun _ _ => ⟨_, _, rfl, rfl⟩
    rw [nats_len, given_nats (PR.take 8) (fun p => rootN (p * 18446744073709551616) false), hf] at h3
    have E3 := (e1.trans e2).trans e3
    -- bits
    have hlen : ∀ σ' H', Ex H H' → σ'[0]? = some (some (.ref a)) → Ev (tCB (rLenS K) (tCons (tVar 0) tNil)) σ' H' (.int (data.length : Int)) := fun σ' H' e' s' => by
      have := ev_len (K := K) (ta := tVar 0) (ev_v s') (sq_of (e' a _ hA))
      rw [nats_len] at this
      exact this
    refine q_asg (ev_op (ev_cn 8) (hlen _ _ E3 rfl) (rv_mulWN (n := 4) (m := 6) (by decide) (by omega) (by decide) (by decide) (by decide))) fun H4 e4 => ?_
    -- filled
    have E4 := E3.trans e4
    have z : (119 - data.length) % 64 = 55 - data.length := by omega
    refine q_asgL (xs := nats (data ++ [128] ++ List.replicate (55 - data.length) 0)) ?_ fun p5 H5 hp5 e5 h5 => ?_
    · rw [nats_app, nats_app, ← rep_one, ← z]
      refine el_cat (evl_n (el_cat (evl_k (ev_v rfl) (E4 a _ hA)) (evl_n (el_lst (ea_cons (ev_cn 128) ea_nil) (by decide))) (by rw [nats_len, nats_len]; simp; omega)))
        (evl_n (el_rep (evl_n (el_lst (ea_cons (ev_cn 0) ea_nil) (by decide))) (ev_int (ev_op (ev_op (ev_cn 119) (hlen _ _ E4 rfl) (rv_subN (by omega))) (ev_cn 64) (rv_modN (by decide)))) (by omega) (by rw [nats_len]; simp; omega))) ?_
      rw [rep_one, ← nats_app, nats_len, nats_len, List.length_append, List.length_replicate, List.length_singleton]
      omega
    -- tail
    refine q_asgL (el_lst ea_nil (by decide)) fun p6 H6 hp6 e6 h6 => ?_
    have E6 := (E4.trans e5).trans e6
    refine q_forR1N (n := 8) (ea_cons (ev_cn 8) ea_nil) (by decide) (fun i σ H' => Ex H6 H' ∧ ∃ p y, H' p = some (.lst (nats (tailL (8 * data.length) i))) ∧
        σ = [some (.ref a), some (.ref p1), some (.ref p2), none, some (.ref p3), some (.int ((8 * data.length / 256 ^ i : Nat) : Int)), some (.ref p5), some (.ref p), y, none, none, none, none])
      (fun H7 e7 => ⟨e7, p6, _, e7 p6 _ h6, by simp; rfl⟩) ?_ ?_
    · rintro i σ H' hi ⟨e, p, y, hp, rfl⟩
      refine q_asgL (xs := nats [8 * data.length / 256 ^ i % 256] ++ nats (tailL (8 * data.length) i)) ?_ fun p8 H8 hp8 e8 h8 => ?_
      · exact el_cat (evl_n (el_lst (ea_cons (ev_int (ev_op (ev_v rfl) (ev_cn 256) (rv_modN (by decide)))) ea_nil) (by show 1 ≤ 100000; decide))) (evl_k (ev_v rfl) hp) (by rw [nats_len, nats_len, tailL_len]; simp; omega)
      refine s_asg (ev_op (ev_v rfl) (ev_cn 256) (rv_divN (by decide) (by decide))) fun H9 e9 => ?_
      refine ⟨(e.trans e8).trans e9, p8, some (.int (i : Int)), e9 p8 _ h8, ?_⟩
      rw [Nat.pow_succ, ← Nat.div_div_eq_div_mul]
      rfl
    rintro σ H7 ⟨e7, p, y, hp7, rfl⟩
    have E7 := E6.trans e7
    have h5' : H7 p5 = some (.lst (nats (data ++ [128] ++ List.replicate (55 - data.length) 0))) := e7 p5 _ (e6 p5 _ h5)
    -- filled
    refine q_asgL (xs := nats (padL data)) (by
      unfold padL
      rw [nats_app]
      exact el_cat (evl_k (ev_v rfl) h5') (evl_k (ev_v rfl) hp7) (by rw [nats_len, nats_len, tailL_len]; simp; omega)) fun p8 H8 hp8 e8 h8 => ?_
    have E8 := E7.trans e8
    have hpl64 := padL_len (data := data) (by omega)
    have hpo := oct_pad hoct
    generalize padL data = PD at h8 hpl64 hpo q
    -- the block
    have hTC : H8 p2 = some (.lst (nats TC)) := e8 p2 _ (e7 p2 _ (e6 p2 _ (e5 p2 _ (e4 p2 _ (e3 p2 _ h2)))))
    have hFC : H8 p3 = some (.lst (nats FC.list)) := e8 p3 _ (e7 p3 _ (e6 p3 _ (e5 p3 _ (e4 p3 _ h3))))
    have hlen8 : ∀ σ' H', Ex H8 H' → σ'[6]? = some (some (.ref p8)) → Ev (tCB (rLenS K) (tCons (tVar 6) tNil)) σ' H' (.int ((64 : Nat) : Int)) := fun σ' H' e' s' => by
      have := ev_len (K := K) (ta := tVar 6) (ev_v s') (sq_of (e' p8 _ h8))
      rw [nats_len, hpl64] at this
      exact this
    refine q_forR1N (n := 1) (ea_cons (ev_op (hlen8 _ _ (Ex.refl _) rfl) (ev_cn 64) (rv_divN (by decide) (by decide))) ea_nil) (by decide) (fun i σ H' => Ex H8 H' ∧ ∃ (r : R8) (p9 : Addr) (y9 : Option V), (i = 0 → r = FC) ∧ (i = 1 → r = blk FC PD TC) ∧ H' p9 = some (.lst (nats r.list)) ∧
        σ = [some (.ref a), some (.ref p1), some (.ref p2), none, some (.ref p9), some (.int ((8 * data.length / 256 ^ 8 : Nat) : Int)), some (.ref p8), some (.ref p), y, y9, none, none, none])
      (fun H9 e9 => ⟨e9, FC, p3, none, fun _ => rfl, (fun z => nomatch z), e9 p3 _ hFC, rfl⟩) ?_ ?_
    · rintro i σ H' hi ⟨e, r, p9, y9, hr0, _, hp9, rfl⟩
      obtain rfl : i = 0 := by omega
      have hr := hr0 rfl
      subst hr
      have hcut : cutV (nats PD) (some ((64 * 0 : Nat) : Int)) (some ((64 * 0 + 64 : Nat) : Int)) = nats PD := by
        rw [cutV_mid _ _ _ (Nat.zero_le _), List.drop_zero, List.take_of_length_le (by rw [nats_len]; omega)]
      refine s_asgL (xs := nats (blk r PD TC).list) (el_calP (eap_v (ev_v rfl) (eap_l (xs := nats PD) (by
          rw [← hcut]
          exact el_sl (ev_v rfl) (eo_some (ev_op (ev_cn 64) (ev_v rfl) (rv_mulWN (n := 7) (m := 1) (by decide) (by decide) (by decide) (by decide) (by decide)))) (eo_some (ev_op (ev_op (ev_cn 64) (ev_v rfl) (rv_mulWN (n := 7) (m := 1) (by decide) (by decide) (by decide) (by decide) (by decide))) (ev_cn 64) rv_addN)) (sq_of (e p8 _ h8)))
        (eap_v (ev_v rfl) eap_nil))) fun vs H9 e9 hvs => ?_) fun p10 H10 hp10 e10 h10 => ?_
      · obtain ⟨_, rfl, b, _, rfl, hb, _, rfl, rfl⟩ := hvs
        exact ⟨r, PD, TC, p9, b, p2, rfl, hfo, hpo, hpl64, htl, sq_of (e9 p9 _ hp9), sq_of hb, sq_of (e9 p2 _ (e p2 _ hTC)), rfl⟩
      · exact ⟨e.trans e10, _, p10, _, (fun z => nomatch z), fun _ => rfl, h10, rfl⟩
    rintro σ H9 ⟨e9, r, p9, y9, _, hr1, hp9, rfl⟩
    have hr := hr1 rfl
    rw [← hr] at q
    clear hr hr1
    have hrl : r.list.length = 8 := rfl
    generalize hRL : r.list = RL at hp9 q hrl
    have E9 := E8.trans e9
    -- digits
    refine q_asg (ev_cs [] (by decide +kernel)) fun H10 e10 => ?_
    refine q_forLn (xs := nats RL) (ev_v rfl) (sq_of (e10 p9 _ hp9)) (fun j σ H' => Ex H9 H' ∧ ∃ y1 y2 y3, σ = [some (.ref a), some (.ref p1), some (.ref p2), none, some (.ref p9), some (.int ((8 * data.length / 256 ^ 8 : Nat) : Int)), some (.ref p8), some (.ref p), y1, y9, some (.str (tx (hexR (RL.take j)))), y2, y3])
      (fun H11 e11 => ⟨e10.trans e11, _, _, _, rfl⟩) (fun j σ' H' _ ⟨e', _⟩ => sq_of (e' p9 _ hp9)) ?_ ?_
    · rintro j x σ H' hx ⟨e, y1, y2, y3, rfl⟩
      obtain ⟨rfl, hj⟩ := getD_of hx
      refine q_asg (ev_cs [] (by decide +kernel)) fun H11 e11 => ?_
      refine q_forR1N (n := 8) (ea_cons (ev_cn 8) ea_nil) (by decide) (fun i σ H' => Ex H11 H' ∧ ∃ y1, σ = [some (.ref a), some (.ref p1), some (.ref p2), none, some (.ref p9), some (.int ((8 * data.length / 256 ^ 8 : Nat) : Int)), some (.ref p8), some (.ref p), y1, y9, some (.str (tx (hexR (RL.take j)))),
          some (.int ((RL.getD j 0 / 16 ^ i : Nat) : Int)), some (.str (tx (hexL (RL.getD j 0) i)))]) (fun H12 e12 => ⟨e12, _, by rw [Nat.pow_zero, Nat.div_one]; rfl⟩) ?_ ?_
      · rintro i σ H' hi ⟨e', y1, rfl⟩
        refine q_asg (v := .str (tx (hexL (RL.getD j 0) (i + 1)))) (ev_op (ev_op (ev_cs hexd hex_str) (ev_int (ev_op (ev_v rfl) (ev_cn 16) (rv_modN (by decide)))) (rv_ixSn (by decide) (hex_get (Nat.mod_lt _ (by decide))))) (ev_v rfl) (rv_addS (by rw [hexL_len]; simp; omega))) fun H12 e12 => ?_
        refine s_asg (ev_op (ev_v rfl) (ev_cn 16) (rv_divN (by decide) (by decide))) fun H13 e13 => ?_
        refine ⟨(e'.trans e12).trans e13, some (.int (i : Int)), ?_⟩
        rw [show RL.getD j 0 / 16 ^ (i + 1) = RL.getD j 0 / 16 ^ i / 16 by rw [Nat.pow_succ, ← Nat.div_div_eq_div_mul]]
        rfl
      · rintro σ H12 ⟨e12, y1, rfl⟩
        refine s_asg (ev_op (ev_v rfl) (ev_v rfl) (rv_addS (by rw [hexR_len, hexL_len, List.length_take]; omega))) fun H13 e13 => ?_
        refine ⟨((e.trans e11).trans e12).trans e13, y1, some (.int ((RL.getD j 0 / 16 ^ 8 : Nat) : Int)), some (.str (tx (hexL (RL.getD j 0) 8))), ?_⟩
        rw [hexR_take hj]
        rfl
    · rintro σ H' ⟨e, y1, y2, y3, rfl⟩
      refine s_ret (ev_v rfl) fun H11 e11 => ?_
      rw [nats_len, List.take_of_length_le (Nat.le_refl _)]
      exact q H11 ((E9.trans e).trans e11)
end
end K01

set_option Elab.async false
set_option linter.all false
set_option maxRecDepth 100000
set_option maxHeartbeats 4000000
namespace K01
open PySem PySem.Spec PyProof.Rows L2 Evl My
def zc (n : Nat) : Nat := ((55 - (n : Int)) % 64).toNat
def padP (data : List Nat) : List Nat := data ++ [128] ++ List.replicate (zc data.length) 0 ++ (List.range 8).map fun i => (8 * data.length) >>> (8 * (7 - i)) &&& 255
theorem zc_lt (n : Nat) : zc n < 64 := by unfold zc; omega
theorem zc_cast (n : Nat) : (55 - (n : Int)) % 64 = (zc n : Int) := by unfold zc; omega
theorem padP_len (data : List Nat) : (padP data).length = data.length + 9 + zc data.length := by
  unfold padP
  rw [List.length_append, List.length_append, List.length_append, List.length_replicate, List.length_map, List.length_range, List.length_singleton]
  omega
theorem padP_mod (data : List Nat) : (padP data).length % 64 = 0 := by
  rw [padP_len]
  unfold zc
  omega
theorem not_rule {e g : Nat} (he : e < 2 ^ 32) (hg : g < 2 ^ 32) : Builtin.bitAnd (Builtin.bitNot (e : Int)) (g : Int) = (((4294967295 - e) &&& g : Nat) : Int) := by
  rw [not_and he, Nat.mod_eq_of_lt hg, bitAnd_np (by unfold Builtin.bitNot; omega) (Int.natCast_nonneg _), bitNot_bitNot, Int.toNat_natCast, Int.toNat_natCast]
  have := @Nat.and_le_left g e
  omega
theorem pick_eq {e f g : Nat} : (e &&& f ^^^ (4294967295 - e) &&& g) = ((e &&& f) ^^^ ((4294967295 - e) &&& g)) := rfl
section
variable {P : Program} {w : World} {K : PySem.W.Frag} {mg : Str → Option Value} {base : Heap}
abbrev s_padded : Stmt := topS 4
theorem sc_padded : FnScope ["data", "bits", "found", "at"] ["data"] (defScope s_padded) := ⟨rfl, rfl, rfl, by decide +kernel, rfl, by decide +kernel, by decide +kernel⟩
/- 0 data, 1 bits*, 2 found, 3 at -/
def ok_padded (vs : List V) (H : Hp) (z : List V) : Prop := ∃ (a : Addr) (data : List Nat), vs = [.ref a] ∧ H a = some (.lst (nats data)) ∧ data.length ≤ 30000 ∧ z = nats (padP data)
theorem fn_padded {f : Addr} {fd : FuncData} {k : Nat} (F : Fun K "padded" "padded" s_padded f fd) (N : Nb mg) : FnOk P w K mg base CX0 (k + 1) f fd ["data"] (spL ok_padded) := by
  refine F.ok sc_padded (fun vs H Q E h => ?_) (fun cdv A outer s H vs Q E hr h => ?_)
  · obtain ⟨_, ⟨_, _, rfl, _⟩, _⟩ := h
    rfl
  · obtain ⟨_, ⟨a, data, rfl, hA, hd, rfl⟩, q⟩ := h
    refine ⟨_, (pss_cons (ps_set (i := 1) sc_padded.nd rfl (Or.inr rfl) (pe_op op_mul pe_int (pe_callB call_len_seq (by rfl) N.len PySem.boot_len (pa_cons (pv 0) pa_nil))))
      (pss_cons (ps_set (i := 2) sc_padded.nd rfl (Or.inl rfl) (pe_op op_cat (pe_op op_cat (pv 0) (pe_lst (pa_cons pe_int pa_nil))) (pe_op op_rep (pe_lst (pa_cons pe_int pa_nil)) (pe_op op_mod (pe_op op_sub pe_int (pe_callB call_len_seq (by rfl) N.len PySem.boot_len (pa_cons (pv 0) pa_nil))) pe_int))))
      (pss_one (ps_ret (pe_op op_cat (pv 2) (pe_lc (own := [("at", 3)]) (by rfl) sc_padded.nd (pi_range3 rfl N.range (pa_cons pe_int (pa_cons (pe_un un_neg pe_int) (pa_cons (pe_un un_neg pe_int) pa_nil)))) (blkOk_by (own := [("at", 3)]) (N := ["data", "bits", "found", "at"]) (sc := defScope s_padded) (by decide +kernel)) (fun _ _ _ _ _ => (pg_name (i := 3) sc_padded.nd rfl (Or.inl rfl))) (fun _ _ _ _ _ => pts_nil) (fun _ _ _ _ _ => (pe_op op_and (pe_op op_shr (pv 1) (pe_op op_mul pe_int (pv 3))) pe_int)))))))), ?_⟩
    have hlen : ∀ σ' H', Ex H H' → σ'[0]? = some (some (.ref a)) → Ev (tCB (rLenS K) (tCons (tVar 0) tNil)) σ' H' (.int (data.length : Int)) := fun σ' H' e' s' => by
      have := ev_len (K := K) (ta := tVar 0) (ev_v s') (sq_of (e' a _ hA))
      rw [nats_len] at this
      exact this
    refine q_asg (ev_op (ev_cn 8) (hlen _ _ (Ex.refl _) rfl) (rv_mulN (.inl (by decide)))) fun H1 e1 => ?_
    have zl := zc_lt data.length
    refine q_asgL (xs := nats (data ++ [128] ++ List.replicate (zc data.length) 0)) ?_ fun p2 H2 hp2 e2 h2 => ?_
    · rw [nats_app, nats_app, ← rep_one]
      refine el_cat (evl_n (el_cat (evl_k (ev_v rfl) (e1 a _ hA)) (evl_n (el_lst (ea_cons (ev_cn 128) ea_nil) (by decide))) (by rw [nats_len, nats_len]; simp; omega)))
        (evl_n (el_rep (evl_n (el_lst (ea_cons (ev_cn 0) ea_nil) (by decide))) (ev_is (ev_op (ev_op (ev_cn 55) (hlen _ _ e1 rfl) rv_I0) (ev_cn 64) (rv_I (by decide))) (congrArg V.int (zc_cast _))) (by omega) (by rw [nats_len]; simp; omega))) ?_
      rw [rep_one, ← nats_app, nats_len, nats_len, List.length_append, List.length_replicate, List.length_singleton]
      omega
    have hmap : (List.range 8).map (fun i => V.int (((8 * data.length) >>> (8 * (7 - i)) &&& 255 : Nat) : Int)) = nats ((List.range 8).map fun i => (8 * data.length) >>> (8 * (7 - i)) &&& 255) := by
      unfold nats
      rw [List.map_map]
      rfl
    refine s_retL (xs := nats (padP data)) ?_ fun p3 H3 hp3 e3 h3 => q p3 H3 (fresh_back (e1.trans e2) hp3) ((e1.trans e2).trans e3) h3
    unfold padP
    rw [nats_app, ← hmap]
    refine el_cat (evl_k (ev_v rfl) h2) (evl_n (el_lcR3 (fun i => V.int (((8 * data.length) >>> (8 * (7 - i)) &&& 255 : Nat) : Int)) (ea_cons ev_c (ea_cons (ev_un ev_c ru_neg) (ea_cons (ev_un ev_c ru_neg) ea_nil))) (n := 8) (RgC.neg (by decide) (by decide) (by decide) (by decide)) (by decide) (fun _ => rfl) fun i H3 e3 hi => ?_)) ?_
    · have e7 : (7 : Int) + (i : Nat) * (-1) = ((7 - i : Nat) : Int) := by omega
      rw [e7]
      exact ev_op (ev_op (ev_v rfl) (ev_op (ev_cn 8) (ev_v rfl) (rv_mulN (.inl (by decide)))) rv_shrN) (ev_cn 255) rv_andN
    · rw [nats_len, List.length_map, List.length_range, List.length_append, List.length_append, List.length_replicate, List.length_singleton]
      omega
abbrev s_spread : Stmt := topS 5
theorem sc_spread : FnScope ["block", "words", "at", "one", "two", "low", "high"] ["block"] (defScope s_spread) := ⟨rfl, rfl, rfl, by decide +kernel, rfl, by decide +kernel, by decide +kernel⟩
/- 0 block, 1 words, 2 at, 3 one, 4 two, 5 low, 6 high -/
def ok_spread (K : PySem.W.Frag) (vs : List V) (H : Hp) (z : List V) : Prop := ∃ (b : Addr) (bl : List Nat), vs = [.ref b] ∧ Oct bl ∧ bl.length = 64 ∧ SqL K H b (nats bl) ∧ z = nats (wds bl 48)
theorem fn_spread {f : Addr} {fd : FuncData} {k : Nat} (F : Fun K "spread" "spread" s_spread f fd) (N : Nb mg) (g_MASK : GI mg "MASK" 4294967295) : FnOk P w K mg base CX0 (k + 1) f fd ["block"] (spL (ok_spread K)) := by
  refine F.ok sc_spread (fun vs H Q E h => ?_) (fun cdv A outer s H vs Q E hr h => ?_)
  · obtain ⟨_, ⟨_, _, rfl, _⟩, _⟩ := h
    rfl
  · obtain ⟨_, ⟨b, bl, rfl, hoct, hbl, hB, hz⟩, q⟩ := h
    rw [hz] at q
    refine ⟨_, (pss_cons (ps_set (i := 1) sc_spread.nd rfl (Or.inl rfl) (pe_lst pa_nil))
      (pss_cons (ps_for PassesOwn.never rfl (pi_range3 rfl N.range (pa_cons pe_int (pa_cons pe_int (pa_cons pe_int pa_nil)))) (pg_name (i := 2) sc_spread.nd rfl (Or.inl rfl)) (pss_one (ps_expr (pe_bm PySem.F.plainAttrs_list PySem.F.slot_list_append PySem.F.type_list_append mt_append (pv 1) (pa_cons (pe_op op_or (pe_op op_or (pe_op op_or (pe_op op_shl (pe_ix ix_list (pv 0) (pv 2) (fun _ _ => rfl)) pe_int) (pe_op op_shl (pe_ix ix_list (pv 0) (pe_op op_add (pv 2) pe_int) (fun _ _ => rfl)) pe_int)) (pe_op op_shl (pe_ix ix_list (pv 0) (pe_op op_add (pv 2) pe_int) (fun _ _ => rfl)) pe_int)) (pe_ix ix_list (pv 0) (pe_op op_add (pv 2) pe_int) (fun _ _ => rfl))) pa_nil)))))
      (pss_cons (ps_for PassesOwn.never rfl (pi_range2 rfl N.range (pa_cons pe_int (pa_cons pe_int pa_nil))) (pg_name (i := 2) sc_spread.nd rfl (Or.inl rfl)) (pss_cons (ps_par (i := 3) (j := 4) (by rfl) sc_spread.nd rfl rfl (by decide) rfl rfl (pa_cons (pe_ix ix_list (pv 1) (pe_op op_sub (pv 2) pe_int) (fun _ _ => rfl)) (pa_cons (pe_ix ix_list (pv 1) (pe_op op_sub (pv 2) pe_int) (fun _ _ => rfl)) pa_nil)) (by rfl))
      (pss_cons (ps_set (i := 5) sc_spread.nd rfl (Or.inl rfl) (pe_op op_xor (pe_op op_xor (pe_op op_or (pe_op op_shr (pv 3) pe_int) (pe_op op_shl (pv 3) pe_int)) (pe_op op_or (pe_op op_shr (pv 3) pe_int) (pe_op op_shl (pv 3) pe_int))) (pe_op op_shr (pv 3) pe_int)))
      (pss_cons (ps_set (i := 6) sc_spread.nd rfl (Or.inl rfl) (pe_op op_xor (pe_op op_xor (pe_op op_or (pe_op op_shr (pv 4) pe_int) (pe_op op_shl (pv 4) pe_int)) (pe_op op_or (pe_op op_shr (pv 4) pe_int) (pe_op op_shl (pv 4) pe_int))) (pe_op op_shr (pv 4) pe_int)))
      (pss_one (ps_expr (pe_bm PySem.F.plainAttrs_list PySem.F.slot_list_append PySem.F.type_list_append mt_append (pv 1) (pa_cons (pe_op op_and (pe_op op_add (pe_op op_add (pe_op op_add (pe_ix ix_list (pv 1) (pe_op op_sub (pv 2) pe_int) (fun _ _ => rfl)) (pe_op op_and (pv 5) (pe_gi g_MASK))) (pe_ix ix_list (pv 1) (pe_op op_sub (pv 2) pe_int) (fun _ _ => rfl))) (pe_op op_and (pv 6) (pe_gi g_MASK))) (pe_gi g_MASK)) pa_nil))))))))
      (pss_one (ps_ret (pv 1)))))), ?_⟩
    refine q_asgL (el_lst ea_nil (by decide)) fun p H1 hp e1 h1 => ?_
    refine q_forR3 (n := 16) (ea_cons (ev_cn 0) (ea_cons (ev_cn 64) (ea_cons (ev_cn 4) ea_nil))) (by unfold RgC; decide) (fun i σ H' => Ex H H' ∧ H' p = some (.lst (nats (wd0 bl i))) ∧ ∃ y, σ = [some (.ref b), some (.ref p), y, none, none, none, none])
      (fun H2 e2 => ⟨e1.trans e2, e2 p _ h1, none, rfl⟩) ?_ ?_
    · rintro i σ H' hi ⟨e, hw, y, rfl⟩
      have e4 : ((0 : Nat) : Int) + (i : Nat) * ((4 : Nat) : Int) = ((4 * i : Nat) : Int) := by omega
      rw [e4]
      have hB' := ex_l e hB
      have g : ∀ j, j < 64 → (nats bl)[j]? = some (.int ((bl.getD j 0 : Nat) : Int)) := fun j hj => nats_get (by omega)
      have lt := fun j => hoct.get j
      have l64 : ∀ j, bl.getD j 0 < 2 ^ 64 := fun j => Nat.lt_trans (lt j) (by decide)
      refine s_app (v := .int (word4 bl i : Nat)) hw (ev_v rfl) (ev_is (ev_op (ev_op (ev_op (ev_op (ev_ixL (ev_v rfl) (ev_v rfl) hB' (g _ (by omega))) (ev_cn 24) (rv_shlN (l64 _) (by decide)))
        (ev_op (ev_ixL (ev_v rfl) (ev_op (ev_v rfl) (ev_cn 1) rv_addN) hB' (g _ (by omega))) (ev_cn 16) (rv_shlN (l64 _) (by decide))) rv_orN)
        (ev_op (ev_ixL (ev_v rfl) (ev_op (ev_v rfl) (ev_cn 2) rv_addN) hB' (g _ (by omega))) (ev_cn 8) (rv_shlN (l64 _) (by decide))) rv_orN)
        (ev_ixL (ev_v rfl) (ev_op (ev_v rfl) (ev_cn 3) rv_addN) hB' (g _ (by omega))) rv_orN) ?_) (by rw [nats_len, wd0_len]; omega) fun H2 e2 => ?_
      · rw [word_or (lt _) (lt _) (lt _)]
        rfl
      · refine ⟨(e.trans e2).mut hp, ?_, some (.int ((4 * i : Nat) : Int)), rfl⟩
        rw [upd_same, wd0, nats_app]
        rfl
    rintro σ H2 ⟨e2, h2, y, rfl⟩
    refine q_forR2N (lo := 16) (n := 64) (ea_cons (ev_cn 16) (ea_cons (ev_cn 64) ea_nil)) (by decide) (fun i σ H' => Ex H H' ∧ H' p = some (.lst (nats (wds bl i))) ∧ ∃ y y3 y4 y5 y6, σ = [some (.ref b), some (.ref p), y, y3, y4, y5, y6])
      (fun H3 e3 => ⟨e2.trans e3, e3 p _ h2, _, _, _, _, _, rfl⟩) ?_ ?_
    · rintro i σ H' hi ⟨e, hw, y, y3, y4, y5, y6, rfl⟩
      have wl := wds_len bl i
      have lt := getD_lt (wds_lt hoct i) (by decide)
      have l64 : ∀ j, (wds bl i).getD j 0 < 2 ^ 64 := fun j => Nat.lt_trans (lt j) (by decide)
      have g : ∀ j, j < 16 + i → (nats (wds bl i))[j]? = some (.int (((wds bl i).getD j 0 : Nat) : Int)) := fun j hj => nats_get (by omega)
      have ix : ∀ (d : Nat), d ≤ 16 → 0 < d → ∀ σ' H3, Ex H' H3 → σ'[1]? = some (some (.ref p)) → σ'[2]? = some (some (.int ((16 + i : Nat) : Int))) → Ev (tOp (rIxL K) (tVar 1) (tOp (rI0 fun i j => .int (i - j)) (tVar 2) (tC (.int (d : Int))))) σ' H3 (.int (((wds bl i).getD (16 + i - d) 0 : Nat) : Int)) :=
        fun d hd d0 σ' H3 e3 s3 s4 => ev_ixL (ev_v s3) (ev_op (ev_v s4) (ev_cn d) (rv_subN (by omega))) (sq_of (e3 p _ hw)) (g _ (by omega))
      -- one, two
      refine q_par (ea_cons (ix 15 (by decide) (by decide) _ _ (Ex.refl _) rfl rfl) (ea_cons (ix 2 (by decide) (by decide) _ _ (Ex.refl _) rfl rfl) ea_nil)) fun H3 e3 => ?_
      have E3 := e3
      refine q_asg (ev_op (ev_op (ev_op (ev_op (ev_v rfl) (ev_cn 7) rv_shrN) (ev_op (ev_v rfl) (ev_cn 25) (rv_shlN (l64 _) (by decide))) rv_orN) (ev_op (ev_op (ev_v rfl) (ev_cn 18) rv_shrN) (ev_op (ev_v rfl) (ev_cn 14) (rv_shlN (l64 _) (by decide))) rv_orN) rv_xorN) (ev_op (ev_v rfl) (ev_cn 3) rv_shrN) rv_xorN) fun H4 e4 => ?_
      refine q_asg (ev_op (ev_op (ev_op (ev_op (ev_v rfl) (ev_cn 17) rv_shrN) (ev_op (ev_v rfl) (ev_cn 15) (rv_shlN (l64 _) (by decide))) rv_orN) (ev_op (ev_op (ev_v rfl) (ev_cn 19) rv_shrN) (ev_op (ev_v rfl) (ev_cn 13) (rv_shlN (l64 _) (by decide))) rv_orN) rv_xorN) (ev_op (ev_v rfl) (ev_cn 10) rv_shrN) rv_xorN) fun H5 e5 => ?_
      have E5 := (e3.trans e4).trans e5
      refine s_app (v := .int (wnext (wds bl i) (16 + i) : Nat)) (E5 p _ hw) (ev_v rfl) (ev_is (ev_op (ev_op (ev_op (ev_op (ix 16 (by decide) (by decide) _ _ E5 rfl rfl) (ev_op (ev_v rfl) (ev_cn 4294967295) rv_andN) rv_addN) (ix 7 (by decide) (by decide) _ _ E5 rfl rfl) rv_addN) (ev_op (ev_v rfl) (ev_cn 4294967295) rv_andN) rv_addN) (ev_cn 4294967295) rv_andN) ?_) (by rw [nats_len]; omega) fun H6 e6 => ?_
      · rw [ssg_prog 25 14 (lt _) rfl rfl, ssg_prog 15 13 (lt _) rfl rfl, mask32]
        rfl
      · refine ⟨(e.trans (E5.trans e6)).mut hp, ?_, _, _, _, _, _, rfl⟩
        rw [upd_same, wds, nats_app]
        rfl
    rintro σ H3 ⟨e3, h3, y, y3, y4, y5, y6, rfl⟩
    refine s_ret (ev_v rfl) fun H4 e4 => ?_
    exact q p H4 (hp) (e3.trans e4) (e4 p _ h3)
end
end K01

set_option Elab.async false
set_option linter.all false
set_option maxRecDepth 100000
set_option maxHeartbeats 4000000
namespace K01
open PySem PySem.Spec PyProof.Rows L2 Evl My
theorem mod_mask (x : Nat) : x &&& 4294967295 = x % 4294967296 := mask32 x
theorem get8 {K : PySem.W.Frag} {r : R8} : nats r.list = [.int (r.a : Int), .int (r.b : Int), .int (r.c : Int), .int (r.d : Int), .int (r.e : Int), .int (r.f : Int), .int (r.g : Int), .int (r.h : Int)] := rfl
theorem list8 (r : R8) : (nats r.list).length = 8 := rfl
theorem list88 (r R : R8) : (nats r.list).length = (nats R.list).length := (list8 r).trans (list8 R).symm
theorem fst1_prog {r : R8} (h : r.ok) (t w : Nat) : r.h + (((r.e >>> 6 ||| r.e <<< 26) ^^^ (r.e >>> 11 ||| r.e <<< 21) ^^^ (r.e >>> 25 ||| r.e <<< 7)) &&& 4294967295) + ((r.e &&& r.f) ^^^ ((4294967295 - r.e) &&& r.g)) + t + w = fst1 r t w := by
  obtain ⟨_, _, _, _, he, _, _, _⟩ := h
  rw [sig_prog 26 21 7 he rfl rfl rfl]
  rfl
theorem snd2_prog {r : R8} (h : r.ok) : (((r.a >>> 2 ||| r.a <<< 30) ^^^ (r.a >>> 13 ||| r.a <<< 19) ^^^ (r.a >>> 22 ||| r.a <<< 10)) &&& 4294967295) + ((r.a &&& r.b) ^^^ (r.a &&& r.c) ^^^ (r.b &&& r.c)) = snd2 r := by
  obtain ⟨ha, _, _, _, _, _, _, _⟩ := h
  rw [sig_prog 30 19 10 ha rfl rfl rfl]
  rfl
section
variable {P : Program} {w : World} {K : PySem.W.Frag} {mg : Str → Option Value} {base : Heap}
abbrev s_mixed : Stmt := topS 6
theorem sc_mixed : FnScope ["state", "words", "a", "b", "c", "d", "e", "f", "g", "h", "turn", "word", "low", "first", "high", "second", "one", "other"] ["state", "words"] (defScope s_mixed) := ⟨rfl, rfl, rfl, by decide +kernel, rfl, by decide +kernel, by decide +kernel⟩
/- 0 state, 1 words, 2 a, 3 b, 4 c, 5 d, 6 e, 7 f, 8 g, 9 h, 10 turn, 11 word, 12 low, 13 first, 14 high, 15 second, 16 one, 17 other -/
def ok_mixed (K : PySem.W.Frag) (vs : List V) (H : Hp) (z : List V) : Prop := ∃ (r : R8) (W : List Nat) (a b : Addr), vs = [.ref a, .ref b] ∧ r.ok ∧ (∀ x ∈ W, x < 2 ^ 32) ∧ W.length = 64 ∧ SqL K H a (nats r.list) ∧ SqL K H b (nats W) ∧ z = nats (radd r (rnds r turnsC W 64)).list
theorem turns_lt : ∀ x ∈ turnsC, x < 2 ^ 32 := by decide +kernel
theorem turns_len : turnsC.length = 64 := by decide +kernel
theorem fn_mixed {f : Addr} {fd : FuncData} {k : Nat} (F : Fun K "mixed" "mixed" s_mixed f fd) (N : Nb mg) (g_MASK : GI mg "MASK" 4294967295) (g_TURNS : GT K mg "TURNS" (nats turnsC)) : FnOk P w K mg base CX0 (k + 1) f fd ["state", "words"] (spL (ok_mixed K)) := by
  refine F.ok sc_mixed (fun vs H Q E h => ?_) (fun cdv A outer s H vs Q E hr h => ?_)
  · obtain ⟨_, ⟨_, _, _, _, rfl, _⟩, _⟩ := h
    rfl
  · obtain ⟨_, ⟨r, W, pa, pb, rfl, hr8, hW, hWl, hA, hB, hz⟩, q⟩ := h
    rw [hz] at q
    refine ⟨_, (pss_cons (ps_asg (pv 0) (pg_unl rfl (pgs_cons (pg_name (i := 2) sc_mixed.nd rfl (Or.inl rfl)) (pgs_cons (pg_name (i := 3) sc_mixed.nd rfl (Or.inl rfl)) (pgs_cons (pg_name (i := 4) sc_mixed.nd rfl (Or.inl rfl)) (pgs_cons (pg_name (i := 5) sc_mixed.nd rfl (Or.inl rfl)) (pgs_cons (pg_name (i := 6) sc_mixed.nd rfl (Or.inl rfl)) (pgs_cons (pg_name (i := 7) sc_mixed.nd rfl (Or.inl rfl)) (pgs_cons (pg_name (i := 8) sc_mixed.nd rfl (Or.inl rfl)) (pgs_cons (pg_name (i := 9) sc_mixed.nd rfl (Or.inl rfl)) pgs_nil))))))))))
      (pss_cons (ps_for PassesOwn.never rfl (pi_zs true false rfl N.zip (pa_cons (pe_gt g_TURNS) (pa_cons (pv 1) pa_nil)) (pk_cons pe_bl pk_nil)) (pg_tup rfl (pgs_cons (pg_name (i := 10) sc_mixed.nd rfl (Or.inl rfl)) (pgs_cons (pg_name (i := 11) sc_mixed.nd rfl (Or.inl rfl)) pgs_nil))) (pss_cons (ps_set (i := 12) sc_mixed.nd rfl (Or.inl rfl) (pe_op op_xor (pe_op op_xor (pe_op op_or (pe_op op_shr (pv 6) pe_int) (pe_op op_shl (pv 6) pe_int)) (pe_op op_or (pe_op op_shr (pv 6) pe_int) (pe_op op_shl (pv 6) pe_int))) (pe_op op_or (pe_op op_shr (pv 6) pe_int) (pe_op op_shl (pv 6) pe_int))))
      (pss_cons (ps_set (i := 13) sc_mixed.nd rfl (Or.inl rfl) (pe_op op_add (pe_op op_add (pe_op op_add (pe_op op_add (pv 9) (pe_op op_and (pv 12) (pe_gi g_MASK))) (pe_op op_xor (pe_op op_and (pv 6) (pv 7)) (pe_op op_and (pe_un un_inv (pv 6)) (pv 8)))) (pv 10)) (pv 11)))
      (pss_cons (ps_set (i := 14) sc_mixed.nd rfl (Or.inl rfl) (pe_op op_xor (pe_op op_xor (pe_op op_or (pe_op op_shr (pv 2) pe_int) (pe_op op_shl (pv 2) pe_int)) (pe_op op_or (pe_op op_shr (pv 2) pe_int) (pe_op op_shl (pv 2) pe_int))) (pe_op op_or (pe_op op_shr (pv 2) pe_int) (pe_op op_shl (pv 2) pe_int))))
      (pss_cons (ps_set (i := 15) sc_mixed.nd rfl (Or.inl rfl) (pe_op op_add (pe_op op_and (pv 14) (pe_gi g_MASK)) (pe_op op_xor (pe_op op_xor (pe_op op_and (pv 2) (pv 3)) (pe_op op_and (pv 2) (pv 4))) (pe_op op_and (pv 3) (pv 4)))))
      (pss_one (ps_asg (pe_tup (pa_cons (pe_op op_and (pe_op op_add (pv 13) (pv 15)) (pe_gi g_MASK)) (pa_cons (pv 2) (pa_cons (pv 3) (pa_cons (pv 4) (pa_cons (pe_op op_and (pe_op op_add (pv 5) (pv 13)) (pe_gi g_MASK)) (pa_cons (pv 6) (pa_cons (pv 7) (pa_cons (pv 8) pa_nil))))))))) (pg_tup rfl (pgs_cons (pg_name (i := 2) sc_mixed.nd rfl (Or.inl rfl)) (pgs_cons (pg_name (i := 3) sc_mixed.nd rfl (Or.inl rfl)) (pgs_cons (pg_name (i := 4) sc_mixed.nd rfl (Or.inl rfl)) (pgs_cons (pg_name (i := 5) sc_mixed.nd rfl (Or.inl rfl)) (pgs_cons (pg_name (i := 6) sc_mixed.nd rfl (Or.inl rfl)) (pgs_cons (pg_name (i := 7) sc_mixed.nd rfl (Or.inl rfl)) (pgs_cons (pg_name (i := 8) sc_mixed.nd rfl (Or.inl rfl)) (pgs_cons (pg_name (i := 9) sc_mixed.nd rfl (Or.inl rfl)) pgs_nil))))))))))))))))
      (pss_one (ps_ret (pe_lc (own := [("one", 16), ("other", 17)]) (by rfl) sc_mixed.nd (pi_zs false false rfl N.zip (pa_cons (pv 0) (pa_cons (pe_lst (pa_cons (pv 2) (pa_cons (pv 3) (pa_cons (pv 4) (pa_cons (pv 5) (pa_cons (pv 6) (pa_cons (pv 7) (pa_cons (pv 8) (pa_cons (pv 9) pa_nil))))))))) pa_nil)) (pk_cons pe_bl pk_nil)) (blkOk_by (own := [("one", 16), ("other", 17)]) (N := ["state", "words", "a", "b", "c", "d", "e", "f", "g", "h", "turn", "word", "low", "first", "high", "second", "one", "other"]) (sc := defScope s_mixed) (by decide +kernel)) (fun _ _ _ _ _ => (show PG _ _ (gTup K 2 _) from pg_tup rfl (pgs_cons (pg_name (i := 16) sc_mixed.nd rfl (Or.inl rfl)) (pgs_cons (pg_name (i := 17) sc_mixed.nd rfl (Or.inl rfl)) pgs_nil)))) (fun _ _ _ _ _ => pts_nil) (fun _ _ _ _ _ => (pe_op op_and (pe_op op_add (pv 16) (pv 17)) (pe_gi g_MASK)))))))), ?_⟩
    have htl := turns_lt
    have htn := turns_len
    generalize turnsC = TC at q htl htn ⊢
    -- a .. h = state
    refine q_unl (vs := nats r.list) [2, 3, 4, 5, 6, 7, 8, 9] (ev_v rfl) hA rfl rfl fun H1 e1 => ?_
    -- the turns
    refine q_forZ (xs := nats TC) (ys := nats W) (ez_gt (ev_v rfl) (ex_l e1 hB)) (by rw [nats_len, nats_len, htn, hWl]) (fun H2 i σ H' => Ex H2 H' ∧ ∃ y10 y11 y12 y13 y14 y15 y16 y17, i ≤ 64 ∧ σ = [some (.ref pa), some (.ref pb), some (.int ((rnds r TC W i).a : Int)), some (.int ((rnds r TC W i).b : Int)), some (.int ((rnds r TC W i).c : Int)),
        some (.int ((rnds r TC W i).d : Int)), some (.int ((rnds r TC W i).e : Int)), some (.int ((rnds r TC W i).f : Int)), some (.int ((rnds r TC W i).g : Int)), some (.int ((rnds r TC W i).h : Int)), y10, y11, y12, y13, y14, y15, y16, y17])
      (fun H2 e2 => ⟨Ex.refl _, _, _, _, _, _, _, _, _, Nat.zero_le _, rfl⟩) (fun H2 i σ' H' p => p.1) ?_ ?_
    · rintro H2 i x y σ H' e2 hx hy ⟨e, y10, y11, y12, y13, y14, y15, y16, y17, hi, rfl⟩ H3 e3
      obtain ⟨rfl, hi1⟩ := getD_of hx
      obtain ⟨rfl, hi2⟩ := getD_of hy
      have ok := rnds_ok hr8 TC W i
      have l := ok
      obtain ⟨l1, l2, l3, l4, l5, l6, l7, l8⟩ := l
      have b64 : ∀ {n : Nat}, n < 2 ^ 32 → n < 2 ^ 64 := fun h => Nat.lt_trans h (by decide)
      generalize hr' : rnds r TC W i = r' at ok l1 l2 l3 l4 l5 l6 l7 l8
      generalize hT : TC.getD i 0 = t
      generalize hw' : W.getD i 0 = w'
      refine q_asg (ev_op (ev_op (ev_op (ev_op (ev_v rfl) (ev_cn 6) rv_shrN) (ev_op (ev_v rfl) (ev_cn 26) (rv_shlN (b64 l5) (by decide))) rv_orN) (ev_op (ev_op (ev_v rfl) (ev_cn 11) rv_shrN) (ev_op (ev_v rfl) (ev_cn 21) (rv_shlN (b64 l5) (by decide))) rv_orN) rv_xorN)
        (ev_op (ev_op (ev_v rfl) (ev_cn 25) rv_shrN) (ev_op (ev_v rfl) (ev_cn 7) (rv_shlN (b64 l5) (by decide))) rv_orN) rv_xorN) fun H4 e4 => ?_
      refine q_asg (v := .int (fst1 r' t w' : Nat)) (ev_is (ev_op (ev_op (ev_op (ev_op (ev_v rfl) (ev_op (ev_v rfl) (ev_cn 4294967295) rv_andN) rv_addN) (ev_op (ev_op (ev_v rfl) (ev_v rfl) rv_andN) (ev_op (ev_un (ev_v rfl) ru_inv) (ev_v rfl) (rv_is rv_I0 (congrArg V.int (not_rule l5 l7)))) rv_xorN) rv_addN) (ev_v rfl) rv_addN) (ev_v rfl) rv_addN) (congrArg (fun n : Nat => V.int (n : Int)) (fst1_prog ok t w'))) fun H5 e5 => ?_
      refine q_asg (ev_op (ev_op (ev_op (ev_op (ev_v rfl) (ev_cn 2) rv_shrN) (ev_op (ev_v rfl) (ev_cn 30) (rv_shlN (b64 l1) (by decide))) rv_orN) (ev_op (ev_op (ev_v rfl) (ev_cn 13) rv_shrN) (ev_op (ev_v rfl) (ev_cn 19) (rv_shlN (b64 l1) (by decide))) rv_orN) rv_xorN)
        (ev_op (ev_op (ev_v rfl) (ev_cn 22) rv_shrN) (ev_op (ev_v rfl) (ev_cn 10) (rv_shlN (b64 l1) (by decide))) rv_orN) rv_xorN) fun H6 e6 => ?_
      refine q_asg (v := .int (snd2 r' : Nat)) (ev_is (ev_op (ev_op (ev_v rfl) (ev_cn 4294967295) rv_andN) (ev_op (ev_op (ev_op (ev_v rfl) (ev_v rfl) rv_andN) (ev_op (ev_v rfl) (ev_v rfl) rv_andN) rv_xorN) (ev_op (ev_v rfl) (ev_v rfl) rv_andN) rv_xorN) rv_addN) (congrArg (fun n : Nat => V.int (n : Int)) (snd2_prog ok))) fun H7 e7 => ?_
      -- the eight at once
      refine s_tupN [2, 3, 4, 5, 6, 7, 8, 9] (eu_tup (ea_cons (ev_is (ev_op (ev_op (ev_v rfl) (ev_v rfl) rv_addN) (ev_cn 4294967295) rv_andN) (congrArg (fun n : Nat => V.int (n : Int)) (mod_mask _))) (ea_cons (ev_v rfl) (ea_cons (ev_v rfl) (ea_cons (ev_v rfl) (ea_cons (ev_is (ev_op (ev_op (ev_v rfl) (ev_v rfl) rv_addN) (ev_cn 4294967295) rv_andN) (congrArg (fun n : Nat => V.int (n : Int)) (mod_mask _))) (ea_cons (ev_v rfl) (ea_cons (ev_v rfl) (ea_cons (ev_v rfl) ea_nil)))))))) (by show 8 ≤ 100000; decide)) rfl rfl fun H8 e8 => ?_
      have er : rnds r TC W (i + 1) = rnd r' t w' := by rw [rnds, hr', hT, hw']
      show Ex H2 H8 ∧ _
      rw [er]
      exact ⟨(((((e.trans e3).trans e4).trans e5).trans e6).trans e7).trans e8, _, _, _, _, _, _, _, _, by omega, rfl⟩
    · rintro H2 σ H' e2 ⟨e, y10, y11, y12, y13, y14, y15, y16, y17, hi, rfl⟩
      rw [nats_len, htn]
      have E := (e1.trans e2).trans e
      generalize rnds r TC W 64 = R at q ⊢
      refine s_retL (el_lcZ (xs := nats r.list) (ys := nats R.list) (fun i => .int (((r.list.getD i 0 + R.list.getD i 0) % 4294967296 : Nat) : Int)) (ez_vn (ev_v rfl) (ex_l E hA) (el_lst (ea_cons (ev_v rfl) (ea_cons (ev_v rfl) (ea_cons (ev_v rfl) (ea_cons (ev_v rfl) (ea_cons (ev_v rfl) (ea_cons (ev_v rfl) (ea_cons (ev_v rfl) (ea_cons (ev_v rfl) ea_nil)))))))) (by show 8 ≤ 100000; decide))) (list88 r R) (by rw [list8]; decide) (fun _ _ => rfl) (fun i x y H3 e3 hx hy => ?_)) fun p3 H3 hp3 e3 h3 => ?_
      · obtain ⟨rfl, _⟩ := getD_of hx
        obtain ⟨rfl, _⟩ := getD_of hy
        exact ev_is (ev_op (ev_op (ev_v rfl) (ev_v rfl) rv_addN) (ev_cn 4294967295) rv_andN) (congrArg (fun n : Nat => V.int (n : Int)) (mod_mask _))
      · rw [list8, radd_map] at h3
        exact q p3 H3 (fresh_back E hp3) (E.trans e3) h3
end
end K01

set_option Elab.async false
set_option linter.all false
set_option maxRecDepth 100000
set_option maxHeartbeats 4000000
namespace K01
open PySem PySem.Spec PyProof.Rows L2 Evl My
/-- the state behind so many blocks -/
def stN (pd : List Nat) : Nat → R8
  | 0 => firstC
  | i + 1 => radd (stN pd i) (rnds (stN pd i) turnsC (wds ((pd.drop (64 * i)).take 64) 48) 64)
theorem stN_ok (pd : List Nat) : ∀ i, (stN pd i).ok
  | 0 => first_ok
  | i + 1 => radd_ok _ _
def shaN (data : List Nat) : List Nat := hexR (stN (padP data) ((padP data).length / 64)).list
theorem hex_shift (w : Nat) : (List.range 8).map (fun k => hexd.getD (w >>> (28 - 4 * k) &&& 15) 0) = hexL w 8 := by
  have e : ∀ n, w >>> (4 * n) &&& 15 = w / 16 ^ n % 16 := fun n => by
    rw [show (15 : Nat) = 2 ^ 4 - 1 from rfl, Nat.and_two_pow_sub_one_eq_mod, Nat.shiftRight_eq_div_pow, Nat.pow_mul]
  have h : ∀ k, k < 8 → hexd.getD (w >>> (28 - 4 * k) &&& 15) 0 = hexd.getD (w / 16 ^ (7 - k) % 16) 0 := fun k hk => by
    rw [show 28 - 4 * k = 4 * (7 - k) by omega, e]
  rw [List.map_congr_left fun k hk => h k (List.mem_range.mp hk)]
  rfl
theorem sum_ones {α : Type} : ∀ l : List α, (l.map fun _ => 1).sum = l.length
  | [] => rfl
  | _ :: r => by rw [List.map_cons, List.sum_cons, sum_ones r, List.length_cons, Nat.add_comm]
theorem rg4 : RgC 28 (-1) (-4) 8 := by unfold RgC; decide
theorem oct_drop {l : List Nat} (h : Oct l) (n m : Nat) : Oct ((l.drop n).take m) := fun x hx => h x (List.mem_of_mem_drop (List.mem_of_mem_take hx))
theorem oct_padP {data : List Nat} (h : Oct data) : Oct (padP data) := by
  unfold padP
  refine oct_app (oct_app (oct_app h fun x hx => by rw [List.mem_singleton.mp hx]; decide) (oct_rep _)) fun x hx => ?_
  obtain ⟨i, _, rfl⟩ := List.mem_map.mp hx
  exact Nat.lt_of_le_of_lt Nat.and_le_right (by decide)
theorem flat_hex (RL : List Nat) : ∀ j, j ≤ RL.length → flat2 8 (fun i k => V.str (tx [hexd.getD (RL.getD i 0 >>> (28 - 4 * k) &&& 15) 0])) j = ((hexR (RL.take j)).map fun c => tx [c]).map V.str
  | 0, _ => rfl
  | j + 1, h => by
    rw [flat2, flat_hex RL j (by omega), hexR_take (by omega), List.map_append, List.map_append, ← hex_shift, List.map_map, List.map_map]
    rfl
/-- for one block both are the same -/
theorem padP_eq {data : List Nat} (h : data.length ≤ 54) : padP data = padL data := by
  have z : zc data.length = 55 - data.length := by unfold zc; omega
  have t : (List.range 8).map (fun i => (8 * data.length) >>> (8 * (7 - i)) &&& 255) = tailL (8 * data.length) 8 := by
    have e : ∀ b n : Nat, b >>> (8 * n) &&& 255 = b / 256 ^ n % 256 := fun b n => by
      rw [show (255 : Nat) = 2 ^ 8 - 1 from rfl, Nat.and_two_pow_sub_one_eq_mod, Nat.shiftRight_eq_div_pow, Nat.pow_mul]
    rw [List.map_congr_left fun k _ => e _ _]
    rfl
  unfold padP padL
  rw [z, t]
theorem sha_eq {data : List Nat} (h : data.length ≤ 54) : shaN data = sha1 data := by
  unfold shaN sha1
  rw [padP_eq h, padL_len (by omega)]
  show hexR (radd firstC (rnds firstC turnsC (wds (((padL data).drop (64 * 0)).take 64) 48) 64)).list = _
  rw [Nat.mul_zero, List.drop_zero, List.take_of_length_le (by rw [padL_len (by omega)]; decide)]
  rfl
section
variable {P : Program} {w : World} {K : PySem.W.Frag} {mg : Str → Option Value} {base : Heap}
abbrev s_sha : Stmt := topS 7
theorem sc_sha : FnScope ["data", "state", "octets", "at", "digits", "word", "shift"] ["data"] (defScope s_sha) := ⟨rfl, rfl, rfl, by decide +kernel, rfl, by decide +kernel, by decide +kernel⟩
/- 0 data, 1 state, 2 octets, 3 at, 4 digits*, 5 word, 6 shift -/
def ok_sha (vs : List V) (H : Hp) (z : V) : Prop := ∃ (a : Addr) (data : List Nat), vs = [.ref a] ∧ H a = some (.lst (nats data)) ∧ data.length ≤ 30000 ∧ Oct data ∧ z = .str (tx (shaN data))
theorem nl (xs : List Nat) (n : Nat) (h : xs.length = n) : (nats xs).length = n := by rw [nats_len, h]
theorem fn_sha {f : Addr} {fd : FuncData} {k : Nat} (F : Fun K "sha" "sha" s_sha f fd) (N : Nb mg) (g_FIRST : GT K mg "FIRST" (nats firstC.list)) (C_padded : Cal P w K mg base k "padded" ["data"] (spL ok_padded)) (C_spread : Cal P w K mg base k "spread" ["block"] (spL (ok_spread K)))
    (C_mixed : Cal P w K mg base k "mixed" ["state", "words"] (spL (ok_mixed K))) : FnOk P w K mg base CX0 (k + 1) f fd ["data"] (spV ok_sha) := by
  refine F.ok sc_sha (fun vs H Q E h => ?_) (fun cdv A outer s H vs Q E hr h => ?_)
  · obtain ⟨_, ⟨_, _, rfl, _⟩, _⟩ := h
    rfl
  · obtain ⟨_, ⟨a, data, rfl, hA, hd, hoct, hz⟩, q⟩ := h
    rw [hz] at q
    refine ⟨_, (pss_cons (ps_set (i := 1) sc_sha.nd rfl (Or.inl rfl) (pe_callTy call_list_of (by rfl) N.list PyProof.Rows.boot_list (pa_cons (pe_gt g_FIRST) pa_nil)))
      (pss_cons (ps_set (i := 2) sc_sha.nd rfl (Or.inl rfl) (pe_cal C_padded hr (pa_cons (pe_callTy call_list_of (by rfl) N.list PyProof.Rows.boot_list (pa_cons (pv 0) pa_nil)) pa_nil)))
      (pss_cons (ps_for PassesOwn.never rfl (pi_range3 rfl N.range (pa_cons pe_int (pa_cons (pe_callB call_len_seq (by rfl) N.len PySem.boot_len (pa_cons (pv 2) pa_nil)) (pa_cons pe_int pa_nil)))) (pg_name (i := 3) sc_sha.nd rfl (Or.inl rfl)) (pss_one (ps_set (i := 1) sc_sha.nd rfl (Or.inl rfl) (pe_cal C_mixed hr (pa_cons (pv 1) (pa_cons (pe_cal C_spread hr (pa_cons (pe_slice sl_list (pv 2) (po_some (pv 3)) (po_some (pe_op op_add (pv 3) pe_int))) pa_nil)) pa_nil))))))
      (pss_cons (ps_set (i := 4) sc_sha.nd rfl (Or.inr rfl) pe_str)
      (pss_one (ps_ret (pe_join pe_str (pe_lc2 (own := [("word", 5), ("shift", 6)]) (vs1 := [6]) (by rfl) sc_sha.nd (pi_list (pv 1)) (blkOk_by (own := [("word", 5), ("shift", 6)]) (N := ["data", "state", "octets", "at", "digits", "word", "shift"]) (sc := defScope s_sha) (by decide +kernel)) (by decide) (fun _ _ _ _ _ => (pg_name (i := 5) sc_sha.nd rfl (Or.inl rfl))) (fun _ _ _ _ _ => pts_nil) (fun _ _ _ _ _ => (pi_range3 rfl N.range (pa_cons pe_int (pa_cons (pe_un un_neg pe_int) (pa_cons (pe_un un_neg pe_int) pa_nil))))) (fun _ _ _ _ _ => (pg_name (i := 6) sc_sha.nd rfl (Or.inl rfl))) (fun _ _ _ _ _ => pts_nil) (fun _ _ _ _ _ => (pe_ix ix_str (pv 4) (pe_op op_and (pe_op op_shr (pv 5) (pv 6)) pe_int) (fun _ _ => rfl))))))))))), ?_⟩
    have hfo := first_ok
    have hok := stN_ok (padP data)
    have h0 : stN (padP data) 0 = firstC := rfl
    have hst : ∀ i, stN (padP data) (i + 1) = radd (stN (padP data) i) (rnds (stN (padP data) i) turnsC (wds (((padP data).drop (64 * i)).take 64) 48) 64) := fun _ => rfl
    have hpo := oct_padP hoct
    have hpm := padP_mod data
    have hpl := padP_len data
    have zl := zc_lt data.length
    unfold shaN at q
    -- state
    refine q_asgL (xs := nats firstC.list) (fun H0 e Q q => fun a' ha => ⟨a', nats firstC.list, rfl, .inr (ha _), fun l hl => q l _ hl (Ex.new hl) upd_same⟩) fun p1 H1 hp1 e1 h1 => ?_
    -- octets
    refine q_asgL (xs := nats (padP data)) (el_calP (eap_l (el_list (ev_v rfl) (sq_of (e1 a _ hA))) eap_nil) fun vs H2 e2 hv => ?_) fun p2 H2 hp2 e2 h2 => ?_
    · obtain ⟨b, _, rfl, hb, rfl⟩ := hv
      exact ⟨b, data, rfl, hb, hd, rfl⟩
    generalize padP data = PD at h2 hst hpo hpm hpl hok h0 q
    generalize stN PD = S at hst hok h0 q
    have E2 := e1.trans e2
    have hlen : Ev (tCB (rLenS K) (tCons (tVar 2) tNil)) [some (.ref a), some (.ref p1), some (.ref p2), none, none, none, none] H2 (.int (PD.length : Int)) := by
      have := ev_len (K := K) (σ := [some (.ref a), some (.ref p1), some (.ref p2), none, none, none, none]) (ta := tVar 2) (ev_v rfl) (sq_of h2)
      rw [nats_len] at this
      exact this
    have hn : (PD.length + 64 - 1) / 64 = PD.length / 64 := by omega
    refine q_forR3 (n := PD.length / 64) (ea_cons (ev_cn 0) (ea_cons hlen (ea_cons (ev_cn 64) ea_nil))) (by rw [← hn]; exact rgC_up (by omega) (by decide) (by decide))
      (fun i σ H' => Ex H2 H' ∧ ∃ p y, H' p = some (.lst (nats (S i).list)) ∧ σ = [some (.ref a), some (.ref p), some (.ref p2), y, none, none, none]) (fun H3 e3 => ⟨e3, p1, none, ?_, rfl⟩) ?_ ?_
    · rw [h0]
      exact e3 p1 _ (e2 p1 _ h1)
    · rintro i σ H' hi ⟨e, p, y, hp, rfl⟩
      have e64 : ((0 : Nat) : Int) + (i : Nat) * ((64 : Nat) : Int) = ((64 * i : Nat) : Int) := by omega
      rw [e64]
      have hcut : cutV (nats PD) (some ((64 * i : Nat) : Int)) (some ((64 * i + 64 : Nat) : Int)) = nats ((PD.drop (64 * i)).take 64) := by
        rw [cutV_mid _ _ _ (by rw [nats_len]; omega), nats_take, nats_drop, show 64 * i + 64 - 64 * i = 64 by omega]
      have hbl : ((PD.drop (64 * i)).take 64).length = 64 := by rw [List.length_take, List.length_drop]; omega
      have hbo := oct_drop hpo (64 * i) 64
      rw [hst]
      generalize (PD.drop (64 * i)).take 64 = BL at hcut hbl hbo ⊢
      have hwl := wds_len BL 48
      have hwt := wds_lt hbo 48
      have hok' := hok i
      refine s_asgL (xs := nats (radd (S i) (rnds (S i) turnsC (wds BL 48) 64)).list) (el_calP (eap_v (ev_v rfl) (eap_l (xs := nats (wds BL 48)) (el_calP (eap_l (xs := nats BL) (by
          rw [← hcut]
          exact el_sl (ev_v rfl) (eo_some (ev_v rfl)) (eo_some (ev_op (ev_v rfl) (ev_cn 64) rv_addN)) (sq_of (e p2 _ h2))) eap_nil) fun vs H4 e4 hv => ?_) eap_nil)) fun vs H5 e5 hv => ?_) fun p3 H6 hp3 e6 h6 => ?_
      · obtain ⟨b, _, rfl, hb, rfl⟩ := hv
        exact ⟨b, BL, rfl, hbo, hbl, sq_of hb, rfl⟩
      · obtain ⟨_, rfl, b, _, rfl, hb, rfl⟩ := hv
        exact ⟨S i, wds BL 48, p, b, rfl, hok', hwt, hwl, sq_of (e5 p _ hp), sq_of hb, rfl⟩
      · exact ⟨e.trans e6, p3, _, h6, rfl⟩
    · rintro σ H' ⟨e, p, y, hp, rfl⟩
      have hSl : (S (PD.length / 64)).list.length = 8 := rfl
      generalize (S (PD.length / 64)).list = RL at hp q hSl
      refine q_asg (ev_cs hexd hex_str) fun H3 e3 => ?_
      have fl : flat2 8 (fun i k => V.str (tx [hexd.getD (RL.getD i 0 >>> (28 - 4 * k) &&& 15) 0])) (nats RL).length = ((hexR RL).map fun c => tx [c]).map V.str := by
        rw [nats_len, flat_hex RL _ (Nat.le_refl _), List.take_of_length_le (Nat.le_refl _)]
      -- ''.join
      refine ⟨⟨_, rfl⟩, ?_⟩
      refine (el_lc2 (K := K) (xs := nats RL) (fun i k => V.str (tx [hexd.getD (RL.getD i 0 >>> (28 - 4 * k) &&& 15) 0])) (ev_v rfl) (sq_of (e3 p _ hp)) rg4 (by rw [nats_len, hSl]; decide) (fun _ => rfl) (fun _ _ => rfl)
        (fun i x H4 e4 hx => ea_cons ev_c (ea_cons (ev_un ev_c ru_neg) (ea_cons (ev_un ev_c ru_neg) ea_nil))) (fun i k x H4 e4 hx hk => ?_)) H3 (Ex.refl _) _ fun p4 H4 hp4 e4 h4 => ?_
      · obtain ⟨rfl, hi⟩ := getD_of hx
        have e7 : (28 : Int) + (k : Nat) * (-4) = ((28 - 4 * k : Nat) : Int) := by omega
        rw [e7]
        exact ev_op (ev_v rfl) (ev_op (ev_op (ev_v rfl) (ev_v rfl) rv_shrN) (ev_cn 15) rv_andN) (rv_ixSn (by decide) (hex_get (Nat.lt_of_le_of_lt Nat.and_le_right (by decide))))
      · rw [fl] at h4
        refine ⟨_, p4, (hexR RL).map fun c => tx [c], rfl, rfl, .inl (sq_of h4), ?_, ?_⟩
        · have e1 : ((hexR RL).map fun c => tx [c]).map (·.length) = (hexR RL).map fun _ => 1 := by
            rw [List.map_map]
            rfl
          rw [e1, sum_ones, List.length_map, hexR_len, hSl]
          decide
        · have e0 : (Str.ofString "") = tx [] := by decide +kernel
          show Q (.str (Txt.join (Str.ofString "") _)) H4
          rw [e0, My.join_ones]
          exact q H4 (((E2.trans e).trans e3).trans e4)
end
end K01

set_option Elab.async false
set_option linter.all false
set_option maxRecDepth 100000
set_option maxHeartbeats 4000000
namespace K01
open PySem PySem.Spec PyProof.Rows L2 Evl My
def signsS : Str := Str.ofString " !\"#$&'()*+,-./0123456789:;<=>?@ABCDEFGHIJKLMNOPQRSTUVWXYZ[\\]^_`abcdefghijklmnopqrstuvwxyz{|}~\n"
theorem signs_eq : signsS = tx sgns := by decide +kernel
theorem signs_at : ∀ c ∈ sgns, ∃ r, Builtin.Str.occurrences (tx sgns) (tx [c]) 0 (tx sgns).length 1 = sgn c :: r := by
  have h : ∀ c ∈ sgns, Builtin.Str.occurrences (tx sgns) (tx [c]) 0 (tx sgns).length 1 = [sgn c] := by decide +kernel
  intro c hc
  exact ⟨[], h c hc⟩
section
variable {P : Program} {w : World} {K : PySem.W.Frag} {mg : Str → Option Value} {base : Heap}
abbrev s_number_told : Stmt := topS 14
theorem sc_number_told : FnScope ["number", "found"] ["number"] (defScope s_number_told) := ⟨rfl, rfl, rfl, by decide +kernel, rfl, by decide +kernel, by decide +kernel⟩
/- 0 number, 1 found -/
def ok_number_told (vs : List V) (H : Hp) (z : List V) : Prop := ∃ n : Nat, vs = [.int (n : Int)] ∧ n < 2 ^ 64 ∧ z = nats (sev n)
theorem fn_number_told {f : Addr} {fd : FuncData} {k : Nat} (F : Fun K "number_told" "number_told" s_number_told f fd) (N : Nb mg) : FnOk P w K mg base CX0 (k + 1) f fd ["number"] (spL ok_number_told) := by
  refine F.ok sc_number_told (fun vs H Q E h => ?_) (fun cdv A outer s H vs Q E hr h => ?_)
  · obtain ⟨_, ⟨_, rfl, _⟩, _⟩ := h
    rfl
  · obtain ⟨_, ⟨n, rfl, hn, hz⟩, q⟩ := h
    rw [hz] at q
    have hsl : (sev n).length ≤ 10 := sev_len 9 n (Nat.lt_of_lt_of_le hn (by decide))
    refine ⟨_, (pss_cons (ps_set (i := 1) sc_number_told.nd rfl (Or.inl rfl) (pe_lst pa_nil))
      (pss_cons (ps_while PassesOwn.never (pt_cmpR op_gt (pv 0) pe_int (nomark _)) (pss_cons (ps_expr (pe_bm PySem.F.plainAttrs_list PySem.F.slot_list_append PySem.F.type_list_append mt_append (pv 1) (pa_cons (pe_op op_add pe_int (pe_op op_mod (pv 0) pe_int)) pa_nil)))
      (pss_one (ps_set (i := 0) sc_number_told.nd rfl (Or.inl rfl) (pe_op op_fdiv (pv 0) pe_int)))))
      (pss_one (ps_ret (pe_op op_cat (pv 1) (pe_lst (pa_cons (pv 0) pa_nil))))))), ?_⟩
    refine q_asgL (el_lst ea_nil (by decide)) fun p H1 hp e1 h1 => ?_
    refine q_while (fun m σ H' => Ex H H' ∧ ∃ pre, H' p = some (.lst (nats pre)) ∧ pre ++ sev m = sev n ∧ σ = [some (.int (m : Int)), some (.ref p)]) n ⟨e1, [], h1, rfl, rfl⟩ ?_
    rintro m σ H' ⟨e, pre, hP, hs, rfl⟩
    have hl : pre.length ≤ 10 := by
      have := congrArg List.length hs
      rw [List.length_append] at this
      omega
    refine ⟨decide ((127 : Int) < (m : Int)), et_test (ev_op (ev_v rfl) (ev_cn 127) rv_I0), fun hb H2 e2 => ⟨fun σ2 H2 => ∃ m', m' < m ∧ (Ex H H2 ∧ ∃ pre, H2 p = some (.lst (nats pre)) ∧ pre ++ sev m' = sev n ∧ σ2 = [some (.int (m' : Int)), some (.ref p)]), fun _ _ h => h, ?_⟩, fun hb H2 e2 => ?_⟩
    · have hm : 127 < m := by
        have := of_decide_eq_true hb
        omega
      refine q_app (e2 p _ hP) (ev_v rfl) (ev_op (ev_cn 128) (ev_op (ev_v rfl) (ev_cn 128) (rv_modN (by decide))) rv_addN) (by rw [nats_len]; omega) fun H3 e3 => ?_
      refine s_asg (ev_op (ev_v rfl) (ev_cn 128) (rv_divN (by decide) (by decide))) fun H4 e4 => ?_
      refine ⟨m / 128, by omega, (((e.trans e2).trans e3).mut hp).trans e4, pre ++ [128 + m % 128], ?_, ?_, rfl⟩
      · rw [nats_app]
        exact e4 p _ upd_same
      · rw [List.append_assoc]
        rw [sev_ge (show ¬ m < 128 by omega)] at hs
        exact hs
    · have hm : m < 128 := by
        have := of_decide_eq_false hb
        omega
      rw [sev_lt hm] at hs
      refine s_retL (xs := nats (sev n)) ?_ fun p2 H3 hp2 e3 h3 => q p2 H3 (fresh_back (e.trans e2) hp2) ((e.trans e2).trans e3) h3
      rw [← hs, nats_app]
      exact el_cat (evl_k (ev_v rfl) (e2 p _ hP)) (evl_n (el_lst (ea_cons (ev_v rfl) ea_nil) (by show 1 ≤ 100000; decide))) (by rw [nats_len, nats_len, List.length_singleton]; omega)
theorem el_pre {σ : L2.St} {H : Hp} {tb : TE} {c n : Nat} (h : Ev tb σ H (.int (n : Int))) (hn : n < 2 ^ 64) : EvL (tOp rCat (tLst (tCons (tC (.int (c : Int))) tNil)) (tCall (spL ok_number_told) [] E0 (tCons tb tNil))) σ H (nats (c :: sev n)) := by
  have hsl : (sev n).length ≤ 10 := sev_len 9 _ (Nat.lt_of_lt_of_le hn (by decide))
  rw [show c :: sev n = [c] ++ sev n from rfl, nats_app]
  exact el_cat (evl_n (el_lst (ea_cons (ev_cn c) ea_nil) (by show 1 ≤ 100000; decide))) (evl_n (el_cal (ea_cons h ea_nil) fun _ _ => ⟨n, rfl, hn, rfl⟩)) (by rw [nats_len, nats_len, List.length_singleton]; omega)
abbrev s_text_told : Stmt := topS 15
theorem sc_text_told : FnScope ["text", "found", "sign"] ["text"] (defScope s_text_told) := ⟨rfl, rfl, rfl, by decide +kernel, rfl, by decide +kernel, by decide +kernel⟩
/- 0 text, 1 found, 2 sign -/
def ok_text_told (vs : List V) (H : Hp) (z : List V) : Prop := ∃ l : List Nat, vs = [.str (tx l)] ∧ l.length ≤ 1000 ∧ (∀ c ∈ l, c ∈ sgns) ∧ z = nats (octs (.str l))
theorem fn_text_told {f : Addr} {fd : FuncData} {k : Nat} (F : Fun K "text_told" "text_told" s_text_told f fd) (N : Nb mg) (g_SIGNS : GS mg "SIGNS" signsS) (C_number_told : Cal P w K mg base k "number_told" ["number"] (spL ok_number_told)) : FnOk P w K mg base CX0 (k + 1) f fd ["text"] (spL ok_text_told) := by
  refine F.ok sc_text_told (fun vs H Q E h => ?_) (fun cdv A outer s H vs Q E hr h => ?_)
  · obtain ⟨_, ⟨_, rfl, _⟩, _⟩ := h
    rfl
  · obtain ⟨_, ⟨l, rfl, hl, hs, hz⟩, q⟩ := h
    rw [hz] at q
    refine ⟨_, (pss_cons (ps_set (i := 1) sc_text_told.nd rfl (Or.inl rfl) (pe_op op_cat (pe_lst (pa_cons pe_int pa_nil)) (pe_cal C_number_told hr (pa_cons (pe_callB call_len_str (by rfl) N.len PySem.boot_len (pa_cons (pv 0) pa_nil)) pa_nil))))
      (pss_cons (ps_for PassesOwn.never rfl (pi_str (pv 0)) (pg_name (i := 2) sc_text_told.nd rfl (Or.inl rfl)) (pss_cons (ps_if (pt_cmpR op_notIn_sign (pv 2) (pe_gs g_SIGNS) rfl) (pss_one ps_never) pss_nil)
      (pss_one (ps_expr (pe_bm PySem.F.plainAttrs_list PySem.F.slot_list_append PySem.F.type_list_append mt_append (pv 1) (pa_cons (pe_bm PySem.F.plainAttrs_str PySem.F.slot_str_index PySem.F.type_str_index mt_sindex (pe_gs g_SIGNS) (pa_cons (pv 2) pa_nil)) pa_nil))))))
      (pss_one (ps_ret (pv 1))))), ?_⟩
    have hsl : (sev l.length).length ≤ 10 := sev_len 9 _ (Nat.lt_of_le_of_lt hl (by decide))
    refine q_asgL (xs := nats ([5] ++ sev l.length)) (by
      rw [nats_app]
      exact el_cat (evl_n (el_lst (ea_cons (ev_cn 5) ea_nil) (by decide))) (evl_n (el_cal (ea_cons (ev_lenS (ev_v rfl) (by omega)) ea_nil) fun _ _ => ⟨l.length, rfl, by omega, rfl⟩)) (by rw [nats_len, nats_len, List.length_singleton]; omega)) fun p H1 hp e1 h1 => ?_
    refine q_forS (l := l) (ev_v rfl) (fun i σ H' => Ex H H' ∧ H' p = some (.lst (nats ([5] ++ sev l.length ++ (l.take i).map sgn))) ∧ ∃ y, σ = [some (.str (tx l)), some (.ref p), y]) (fun H2 e2 => ⟨e1.trans e2, ?_, none, rfl⟩) ?_ ?_
    · rw [List.take_zero, List.map_nil, List.append_nil]
      exact e2 p _ h1
    · rintro i c σ H' hc ⟨e, hP, y, rfl⟩
      have hcs := hs c (List.mem_of_getElem? hc)
      obtain ⟨r, ho⟩ := signs_at c hcs
      refine q_when (b := false) (et_test (ev_is (ev_op (ev_v rfl) ev_c (rv_val fun H1 _ Q q => ⟨c, signsS, rfl, rfl, q⟩)) (by rw [signs_eq]; show V.bl (!decide (c ∈ sgns)) = _; rw [decide_eq_true hcs]; rfl))) (fun z => nomatch z) fun _ H2 e2 => ?_
      have hlen : (l.take i).length ≤ l.length := by rw [List.length_take]; omega
      refine s_app (e2 p _ hP) (ev_v rfl) (ev_sidx (i := sgn c) (r := r) (ev_c (v := .str signsS)) (ev_v rfl) (by rw [signs_eq]; exact ho)) (by rw [nats_len, List.length_append, List.length_append, List.length_map, List.length_singleton]; omega) fun H3 e3 => ?_
      refine ⟨((e.trans e2).trans e3).mut hp, ?_, _, rfl⟩
      rw [upd_same, List.take_add_one, hc, List.map_append, ← List.append_assoc, nats_app ([5] ++ sev l.length ++ _) (List.map sgn (some c).toList)]
      rfl
    · rintro σ H' ⟨e, hP, y, rfl⟩
      rw [List.take_of_length_le (Nat.le_refl _)] at hP
      exact s_ret (ev_v rfl) fun H2 e2 => q p H2 hp (e.trans e2) (e2 p _ hP)
abbrev s_told_at : Stmt := topS 16
theorem sc_told_at : FnScope ["value", "tuples", "found", "one"] ["value", "tuples"] (defScope s_told_at) := ⟨rfl, rfl, rfl, by decide +kernel, rfl, by decide +kernel, by decide +kernel⟩
/- 0 value, 1 tuples, 2 found, 3 one -/
def ok_told_at (h : Nat) (vs : List V) (H : Hp) (z : List V) : Prop := ∃ (v : V) (d : D) (t : Nat), vs = [v, .int (t : Int)] ∧ Rep H v d ∧ Pln d ∧ height d < h ∧ t + height d ≤ 40 ∧ (octs d).length ≤ 20000 ∧ z = nats (octs d)
theorem fn_told_at {f : Addr} {fd : FuncData} {k h : Nat} (F : Fun K "told_at" "told_at" s_told_at f fd) (N : Nb mg) (g_MOST_TUPLES : GI mg "MOST_TUPLES" 40) (C_number_told : Cal P w K mg base k "number_told" ["number"] (spL ok_number_told))
    (C_text_told : Cal P w K mg base k "text_told" ["text"] (spL ok_text_told)) (C_told_at : Cal P w K mg base k "told_at" ["value", "tuples"] (spL (ok_told_at h))) : FnOk P w K mg base CX0 (k + 1) f fd ["value", "tuples"] (spL (ok_told_at (h + 1))) := by
  refine F.ok sc_told_at (fun vs H Q E h => ?_) (fun cdv A outer s H vs Q E hr h => ?_)
  · obtain ⟨_, ⟨_, _, _, rfl, _⟩, _⟩ := h
    rfl
  · obtain ⟨_, ⟨v, d, t, rfl, hR, hp, hh, ht, ho, hz⟩, q⟩ := h
    rw [hz] at q
    refine ⟨_, (pss_cons (ps_if (pt_cmpR op_isN (pv 0) pe_non (nomark _)) (pss_one (ps_ret (pe_lst (pa_cons pe_int pa_nil)))) pss_nil)
      (pss_cons (ps_if (pt_val (pe_callB call_isi (by rfl) N.isinstance PyProof.Rows.boot_isinstance (pa_cons (pv 0) (pa_cons (pe_bltn (v := .ty "bool") (by rfl) N.bool PyProof.Rows.boot_bool rfl) pa_nil)))) (pss_one (ps_ret (pe_lst (pa_cons (pe_ifExp (pt_val (pv 0)) pe_int pe_int) pa_nil)))) pss_nil)
      (pss_cons (ps_if (pt_val (pe_callB call_isi (by rfl) N.isinstance PyProof.Rows.boot_isinstance (pa_cons (pv 0) (pa_cons (pe_bltn (v := .ty "int") (by rfl) N.int PyProof.Rows.boot_int rfl) pa_nil)))) (pss_one (ps_ret (pe_ifExp (pt_cmpR op_ge (pv 0) pe_int (nomark _)) (pe_op op_cat (pe_lst (pa_cons pe_int pa_nil)) (pe_cal C_number_told hr (pa_cons (pv 0) pa_nil))) (pe_op op_cat (pe_lst (pa_cons pe_int pa_nil)) (pe_cal C_number_told hr (pa_cons (pe_op op_sub (pe_un un_neg (pv 0)) pe_int) pa_nil)))))) pss_nil)
      (pss_cons (ps_if (pt_val (pe_callB call_isi (by rfl) N.isinstance PyProof.Rows.boot_isinstance (pa_cons (pv 0) (pa_cons (pe_bltn (v := .ty "str") (by rfl) N.str PyProof.Rows.boot_str rfl) pa_nil)))) (pss_one (ps_ret (pe_cal C_text_told hr (pa_cons (pv 0) pa_nil)))) pss_nil)
      (pss_cons (ps_if (PW.pt (pw_or (pt_not (pt_val (pe_callB call_isi (by rfl) N.isinstance PyProof.Rows.boot_isinstance (pa_cons (pv 0) (pa_cons (pe_bltn (v := .ty "tuple") (by rfl) N.tuple PyProof.Rows.boot_tuple rfl) pa_nil))))) (pw_or1 (pt_cmpR op_eq (pv 1) (pe_gi g_MOST_TUPLES) (nomark _))))) (pss_one ps_never) pss_nil)
      (pss_cons (ps_set (i := 2) sc_told_at.nd rfl (Or.inl rfl) (pe_op op_cat (pe_lst (pa_cons pe_int pa_nil)) (pe_cal C_number_told hr (pa_cons (pe_callB call_len_seq (by rfl) N.len PySem.boot_len (pa_cons (pv 0) pa_nil)) pa_nil))))
      (pss_cons (ps_for PassesOwn.never rfl (pi_tup (pv 0)) (pg_name (i := 3) sc_told_at.nd rfl (Or.inl rfl)) (pss_one (ps_expr (pe_bm PySem.F.plainAttrs_list PySem.F.slot_list_extend PySem.F.type_list_extend mt_extend (pv 2) (pa_cons (pe_cal C_told_at hr (pa_cons (pv 3) (pa_cons (pe_op op_add (pv 1) pe_int) pa_nil))) pa_nil)))))
      (pss_one (ps_ret (pv 2)))))))))), ?_⟩
    have isi : ∀ {v : V} {d : D} {T : String} {σ : L2.St} {H' : Hp} {b : Bool}, Ex H H' → Rep H v d → σ[0]? = some (some v) → kitB (tyD d) T = some b → EvT (tTest (tCB (rIsi K) (tCons (tVar 0) (tCons (tC (.ty T)) tNil)))) σ H' b := fun e r hv hk => et_test (ev_isi (ev_v hv) (r.mono e) hk)
    refine q_when (et_isN (ev_v rfl)) (fun hb H1 e1 => ?_) fun hb H1 e1 => ?_
    · have hv := of_decide_eq_true hb
      subst hv
      cases hR
      exact s_retL (xs := nats [0]) (el_lst (ea_cons (ev_cn 0) ea_nil) (by decide)) fun p2 H3 hp2 e3 h3 => q p2 H3 (fresh_back e1 hp2) (e1.trans e3) h3
    cases hR with
    | non => exact (of_decide_eq_false hb rfl).elim
    | bl b =>
      refine q_when (isi e1 (.bl b) rfl (b := true) (by rfl)) (fun _ H2 e2 => ?_) (fun z => nomatch z)
      refine s_retL (xs := nats (octs (.bl b))) (el_lst (ea_cons (ev_if (b := b) (et_B (ev_v rfl)) (fun hb => by subst hb; exact ev_cn 2) (fun hb => by subst hb; exact ev_cn 1)) ea_nil) (by show 1 ≤ 100000; decide)) fun p2 H3 hp2 e3 h3 => q p2 H3 (fresh_back (e1.trans e2) hp2) ((e1.trans e2).trans e3) h3
    | int i =>
      refine q_when (isi e1 (.int i) rfl (b := false) (by rfl)) (fun z => nomatch z) fun _ H2 e2 => ?_
      refine q_when (isi (e1.trans e2) (.int i) rfl (b := true) (by rfl)) (fun _ H3 e3 => ?_) (fun z => nomatch z)
      have E3 := (e1.trans e2).trans e3
      rw [Pln] at hp
      refine s_retL (xs := nats (octs (.int i))) ?_ fun p2 H3 hp2 e3 h3 => q p2 H3 (fresh_back E3 hp2) (E3.trans e3) h3
      refine el_if (b := decide (0 ≤ i)) (et_test (ev_op (ev_v rfl) (ev_cn 0) rv_I0)) (fun hb => ?_) fun hb => ?_
      · have h0 := of_decide_eq_true hb
        rw [octs, if_pos h0]
        exact el_pre (c := 3) (n := i.toNat) (ev_is (ev_v (v := .int i) rfl) (by rw [Int.toNat_of_nonneg h0])) (by omega)
      · have h0 := of_decide_eq_false hb
        rw [octs, if_neg h0]
        exact el_pre (c := 4) (n := (-i - 1).toNat) (ev_is (ev_op (ev_un (ev_v (v := .int i) rfl) ru_neg) (ev_cn 1) rv_I0) (by rw [Int.toNat_of_nonneg (by omega)]; rfl)) (by omega)
    | str l =>
      refine q_when (isi e1 (.str l) rfl (b := false) (by rfl)) (fun z => nomatch z) fun _ H2 e2 => ?_
      refine q_when (isi (e1.trans e2) (.str l) rfl (b := false) (by rfl)) (fun z => nomatch z) fun _ H3 e3 => ?_
      refine q_when (isi ((e1.trans e2).trans e3) (.str l) rfl (b := true) (by rfl)) (fun _ H4 e4 => ?_) (fun z => nomatch z)
      have E4 := ((e1.trans e2).trans e3).trans e4
      rw [Pln] at hp
      exact s_retL (xs := nats (octs (.str l))) (el_cal (ea_cons (ev_v rfl) ea_nil) fun _ _ => ⟨l, rfl, hp.1, hp.2, rfl⟩) fun p2 H3 hp2 e3 h3 => q p2 H3 (fresh_back E4 hp2) (E4.trans e3) h3
    | @tup a vs ds e r =>
      have R : Rep H (.ref a) (.tup ds) := .tup e r
      refine q_when (isi e1 R rfl (b := false) (by rfl)) (fun z => nomatch z) fun _ H2 e2 => ?_
      refine q_when (isi (e1.trans e2) R rfl (b := false) (by rfl)) (fun z => nomatch z) fun _ H3 e3 => ?_
      refine q_when (isi ((e1.trans e2).trans e3) R rfl (b := false) (by rfl)) (fun z => nomatch z) fun _ H4 e4 => ?_
      have E4 := ((e1.trans e2).trans e3).trans e4
      rw [Pln] at hp
      have hh4 : heightL ds < h := by rw [height] at hh; omega
      have ht4 : t + 1 + heightL ds ≤ 40 := by rw [height] at ht; omega
      have hl := r.len
      refine q_when (b := false) (et_or (b := false) (et_not (isi E4 R rfl (b := true) (by rfl))) fun _ => et_test (ev_is (ev_op (ev_v rfl) ev_c (rv_eq rfl)) (congrArg V.bl (decide_eq_false fun z => by
        have := V.int.inj z
        omega)))) (fun z => nomatch z) fun _ H5 e5 => ?_
      have E5 := E4.trans e5
      have ho2 : (sev ds.length).length + (octsL ds).length ≤ 19999 := by
        rw [octs, List.length_cons, List.length_append] at ho
        omega
      refine q_asgL (xs := nats (6 :: sev ds.length)) (el_pre (c := 6) (n := ds.length) (ev_is (ev_lenT (ev_v rfl) (st_of (E5 a _ e))) (by rw [hl])) (by omega)) fun p H6 hp6 e6 h6 => ?_
      have hp0 := fresh_back E5 hp6
      refine q_forT (K := K) (xs := vs) (ev_v rfl) (st_of (e6 a _ (E5 a _ e))) (fun i σ H' => Ex H H' ∧ H' p = some (.lst (nats (6 :: (sev ds.length ++ octsL (ds.take i))))) ∧ ∃ y, σ = [some (.ref a), some (.int (t : Int)), some (.ref p), y]) (fun H7 e7 => ⟨(E5.trans e6).trans e7, ?_, none, rfl⟩) (fun i σ' H' _ ⟨e', _⟩ => st_of (e' a _ e)) ?_ ?_
      · rw [List.take_zero, octsL, List.append_nil]
        exact e7 p _ h6
      · rintro i x σ H' hx ⟨e', hP, y, rfl⟩
        obtain ⟨d, hd, rd⟩ := r.get' hx
        have g1 := heightL_get hd
        have g2 := octsL_part hd
        show tDrop _ _ _ _
        refine s_extL (xs := nats (6 :: (sev ds.length ++ octsL (ds.take i)))) (ys := nats (octs d)) hP (fun H8 e8 => ev_v rfl) (el_cal (ea_cons (ev_v rfl) (ea_cons (ev_op (ev_v rfl) (ev_cn 1) rv_addN) ea_nil)) fun H8 e8 => ⟨x, d, t + 1, rfl, rd.mono (e'.trans e8), PlnL_get hp.2 hd, by omega, by omega, by omega, rfl⟩) (by rw [nats_len, nats_len, List.length_cons, List.length_append]; omega) fun H8 e8 => ?_
        refine ⟨(e'.trans e8).mut hp0, ?_, _, rfl⟩
        rw [upd_same, ← nats_app, List.cons_append, List.append_assoc, ← octsL_take hd]
      · rintro σ H' ⟨e', hP, y, rfl⟩
        rw [List.take_of_length_le (by omega)] at hP
        exact s_ret (ev_v rfl) fun H9 e9 => q p H9 hp0 (e'.trans e9) (e9 p _ hP)
    | lst e r => exact hp.elim
theorem cal_told_at {f : Addr} {fd : FuncData} {k : Nat} (F : Fun K "told_at" "told_at" s_told_at f fd) (hb : Binds K fd ["value", "tuples"] []) (hk : PySem.W.keepIn K (.ref f) = true) (hm : mg "told_at" = some (.ref f)) (N : Nb mg) (g_MOST_TUPLES : GI mg "MOST_TUPLES" 40)
    (C_number_told : Cal P w K mg base k "number_told" ["number"] (spL ok_number_told)) (C_text_told : Cal P w K mg base k "text_told" ["text"] (spL ok_text_told)) : ∀ h, Cal P w K mg base (k + h) "told_at" ["value", "tuples"] (spL (ok_told_at h))
  | 0 => ⟨f, fd, ⟨fun vs H Q E h => by obtain ⟨_, ⟨_, _, _, _, _, _, h, _⟩, _⟩ := h; exact (Nat.not_lt_zero _ h).elim, fun A outer s H args us vs Q E _ _ _ _ h => by obtain ⟨_, ⟨_, _, _, _, _, _, h, _⟩, _⟩ := h; exact (Nat.not_lt_zero _ h).elim⟩, hb, hk, hm⟩
  | h + 1 => ⟨f, fd, fn_told_at F N g_MOST_TUPLES (C_number_told.mono (Nat.le_add_right k h)) (C_text_told.mono (Nat.le_add_right k h)) (cal_told_at F hb hk hm N g_MOST_TUPLES C_number_told C_text_told h), hb, hk, hm⟩
abbrev s_told : Stmt := topS 17
theorem sc_told : FnScope ["value"] ["value"] (defScope s_told) := ⟨rfl, rfl, rfl, by decide +kernel, rfl, by decide +kernel, by decide +kernel⟩
def ok_told (vs : List V) (H : Hp) (z : List V) : Prop := ∃ (v : V) (d : D), vs = [v] ∧ Rep H v d ∧ Pln d ∧ height d < 4 ∧ (octs d).length ≤ 20000 ∧ z = nats (octs d)
theorem fn_told {f : Addr} {fd : FuncData} {k : Nat} (F : Fun K "told" "told" s_told f fd) (N : Nb mg) (C_told_at : Cal P w K mg base k "told_at" ["value", "tuples"] (spL (ok_told_at 4))) : FnOk P w K mg base CX0 (k + 1) f fd ["value"] (spL ok_told) := by
  refine F.ok sc_told (fun vs H Q E h => ?_) (fun cdv A outer s H vs Q E hr h => ?_)
  · obtain ⟨_, ⟨_, _, rfl, _⟩, _⟩ := h
    rfl
  · obtain ⟨_, ⟨v, d, rfl, hR, hp, hh, ho, hz⟩, q⟩ := h
    rw [hz] at q
    refine ⟨_, (pss_one (ps_ret (pe_cal C_told_at hr (pa_cons (pv 0) (pa_cons pe_int pa_nil))))), ?_⟩
    exact s_retL (xs := nats (octs d)) (el_cal (ea_cons (ev_v rfl) (ea_cons (ev_cn 0) ea_nil)) fun H1 e1 => ⟨v, d, 0, rfl, hR.mono e1, hp, hh, by omega, ho, rfl⟩) fun p2 H3 hp2 e3 h3 => q p2 H3 hp2 e3 h3
end
end K01

set_option Elab.async false
set_option linter.all false
set_option maxRecDepth 100000
set_option maxHeartbeats 4000000
namespace K01
open PySem PySem.Spec PyProof.Rows L2 Evl My
def digL : List Nat := [48, 49, 50, 51, 52, 53, 54, 55, 56, 57]
def letL : List Nat := (List.range 26).map (· + 97)
theorem dig_eq : (Str.ofString "0123456789") = tx digL := by decide +kernel
theorem let_eq : (Str.ofString "abcdefghijklmnopqrstuvwxyz") = tx letL := by decide +kernel
def madeP (signs : List Nat) (most : Nat) (l : List Nat) : Bool := decide (1 ≤ l.length) && decide (l.length ≤ most) && l.all fun c => decide (c ∈ signs)
def nameP (l : List Nat) : Bool := madeP (digL ++ [97, 98, 99, 100, 101, 102]) 20 l && decide (l.length = 20)
def wordP (l : List Nat) : Bool := madeP (letL ++ digL) 12 l && decide (l.headD 0 ∈ letL)
def segP (l : List Nat) : Bool := madeP (letL ++ digL ++ [46, 45, 95]) 20 l && !(decide (l = [46]) || decide (l = [46, 46]))
def pathP (l : List Nat) : Bool := (Txt.split (tx l) (tx [47])).all fun s => segP s.cps.toList
/-- a text or another plain scalar -/
def Tst (d : D) (g : List Nat → Bool) (z : V) : Prop := (∃ l, d = .str l ∧ l.length ≤ 1000 ∧ z = .bl (g l)) ∨ (kitB (tyD d) "str" = some false ∧ z = .bl false)
section
variable {P : Program} {w : World} {K : PySem.W.Frag} {mg : Str → Option Value} {base : Heap}
abbrev s_made_of : Stmt := topS 25
theorem sc_made_of : FnScope ["value", "signs", "most", "sign"] ["value", "signs", "most"] (defScope s_made_of) := ⟨rfl, rfl, rfl, by decide +kernel, rfl, by decide +kernel, by decide +kernel⟩
/- 0 value, 1 signs*, 2 most, 3 sign -/
def ok_made_of (vs : List V) (H : Hp) (z : V) : Prop := ∃ (v : V) (d : D) (signs : List Nat) (most : Nat), vs = [v, .str (tx signs), .int (most : Int)] ∧ Rep H v d ∧ signs.length ≤ 100 ∧ Tst d (madeP signs most) z
theorem fn_made_of {f : Addr} {fd : FuncData} {k : Nat} (F : Fun K "made_of" "made_of" s_made_of f fd) (N : Nb mg) : FnOk P w K mg base CX0 (k + 1) f fd ["value", "signs", "most"] (spV ok_made_of) := by
  refine F.ok sc_made_of (fun vs H Q E h => ?_) (fun cdv A outer s H vs Q E hr h => ?_)
  · obtain ⟨_, ⟨_, _, _, _, rfl, _⟩, _⟩ := h
    rfl
  · obtain ⟨z, ⟨v, d, signs, most, rfl, hR, hs, hT⟩, q⟩ := h
    refine ⟨_, (pss_one (ps_ret (pe_and (pe_callB call_isi (by rfl) N.isinstance PyProof.Rows.boot_isinstance (pa_cons (pv 0) (pa_cons (pe_bltn (v := .ty "str") (by rfl) N.str PyProof.Rows.boot_str rfl) pa_nil))) (pe_and (pe_chain op_le op_le pe_int (pe_callB call_len_str (by rfl) N.len PySem.boot_len (pa_cons (pv 0) pa_nil)) (pv 2)) (pe_one (pe_callB (cr_all rfl) (by rfl) N.all PyProof.Rows.boot_all (pa_cons (pe_lc (own := [("sign", 3)]) (by rfl) sc_made_of.nd (pi_str (pv 0)) (blkOk_by (own := [("sign", 3)]) (N := ["value", "signs", "most", "sign"]) (sc := defScope s_made_of) (by decide +kernel)) (fun _ _ _ _ _ => (pg_name (i := 3) sc_made_of.nd rfl (Or.inl rfl))) (fun _ _ _ _ _ => pts_nil) (fun _ _ _ _ _ => (pe_cmpR op_in_sign (pv 3) (pv 1) rfl))) pa_nil))))))), ?_⟩
    rcases hT with ⟨l, rfl, hl, rfl⟩ | ⟨hk, rfl⟩
    · cases hR
      refine s_ret (ev_is (ev_andV (a := true) (ev_isi (ev_v rfl) (.str l) (by rfl)) fun _ => ev_andV (ev_chain (ev_cn 1) (ev_lenS (ev_v rfl) (by omega)) rv_I0 (fun _ => ev_v rfl) (fun _ => rv_I0)) fun _ => ev_all (bs := l.map fun c => decide (c ∈ signs)) ?_) ?_) fun H1 e1 => q H1 e1
      · rw [List.map_map]
        exact el_lcS (fun c => .bl (decide (c ∈ signs))) (ev_v rfl) (by omega) (fun _ => rfl) fun c H1 e1 hc => ev_op (ev_v rfl) (ev_v rfl) rv_inSn
      · have e : (l.map fun c => decide (c ∈ signs)).all id = l.all fun c => decide (c ∈ signs) := by rw [List.all_map]; rfl
        rw [e, Bool.true_and]
        unfold madeP
        congr 3
        · exact decide_eq_decide.mpr (by omega)
        · exact decide_eq_decide.mpr (by omega)
    · exact s_ret (ev_is (ev_andV (a := false) (b := false) (ev_isi (ev_v rfl) hR hk) (fun z => nomatch z)) rfl) fun H1 e1 => q H1 e1
abbrev s_is_name : Stmt := topS 26
theorem sc_is_name : FnScope ["value"] ["value"] (defScope s_is_name) := ⟨rfl, rfl, rfl, by decide +kernel, rfl, by decide +kernel, by decide +kernel⟩
def ok_is (g : List Nat → Bool) (vs : List V) (H : Hp) (z : V) : Prop := ∃ (v : V) (d : D), vs = [v] ∧ Rep H v d ∧ Tst d g z
theorem made_true {signs : List Nat} {most : Nat} {l : List Nat} (h : madeP signs most l = true) : 1 ≤ l.length := by
  unfold madeP at h
  rw [Bool.and_eq_true, Bool.and_eq_true] at h
  exact of_decide_eq_true h.1.1
theorem fn_is_name {f : Addr} {fd : FuncData} {k : Nat} (F : Fun K "is_name" "is_name" s_is_name f fd) (N : Nb mg) (g_DIGITS : GS mg "DIGITS" (tx digL)) (g_NAME_DIGITS : GI mg "NAME_DIGITS" 20) (C_made_of : Cal P w K mg base k "made_of" ["value", "signs", "most"] (spV ok_made_of)) : FnOk P w K mg base CX0 (k + 1) f fd ["value"] (spV (ok_is nameP)) := by
  refine F.ok sc_is_name (fun vs H Q E h => ?_) (fun cdv A outer s H vs Q E hr h => ?_)
  · obtain ⟨_, ⟨_, _, rfl, _⟩, _⟩ := h
    rfl
  · obtain ⟨z, ⟨v, d, rfl, hR, hT⟩, q⟩ := h
    refine ⟨_, (pss_one (ps_ret (pe_and (pe_cal C_made_of hr (pa_cons (pv 0) (pa_cons (pe_op op_add_str (pe_gs g_DIGITS) pe_str) (pa_cons (pe_gi g_NAME_DIGITS) pa_nil)))) (pe_one (pe_cmpR op_eq (pe_callB call_len_str (by rfl) N.len PySem.boot_len (pa_cons (pv 0) pa_nil)) (pe_gi g_NAME_DIGITS) (nomark _)))))), ?_⟩
    have args : EvA (tCons (tVar 0) (tCons (tOp (fun x y H Q => ∃ i j, x = .str i ∧ y = .str j ∧ i.length + j.length ≤ sizeLine ∧ Q (.str (i ++ j)) H) (tC (.str (tx digL))) (tC (.str "abcdef"))) (tCons (tC (.int 20)) tNil))) [some v] H [v, .str (tx (digL ++ [97, 98, 99, 100, 101, 102])), .int ((20 : Nat) : Int)] :=
      ea_cons (ev_v rfl) (ea_cons (ev_op ev_c (ev_cs [97, 98, 99, 100, 101, 102] (by decide +kernel)) (rv_addS (by decide))) (ea_cons ev_c ea_nil))
    rcases hT with ⟨l, rfl, hl, rfl⟩ | ⟨hk, rfl⟩
    · refine s_ret (ev_is (ev_andV (a := madeP (digL ++ [97, 98, 99, 100, 101, 102]) 20 l) (ev_cal args fun H1 e1 => ⟨v, _, _, 20, rfl, hR.mono e1, by decide, .inl ⟨l, rfl, hl, rfl⟩⟩) fun _ => ?_) rfl) fun H1 e1 => q H1 e1
      cases hR
      exact ev_is (ev_op (ev_lenS (ev_v rfl) (by omega)) ev_c (rv_eq rfl)) (congrArg V.bl (decide_eq_decide.mpr ⟨fun h => by have := V.int.inj h; omega, fun h => by rw [h]; rfl⟩))
    · exact s_ret (ev_is (ev_andV (a := false) (b := false) (ev_cal args fun H1 e1 => ⟨v, _, _, 20, rfl, hR.mono e1, by decide, .inr ⟨hk, rfl⟩⟩) (fun z => nomatch z)) rfl) fun H1 e1 => q H1 e1
abbrev s_is_word : Stmt := topS 27
theorem sc_is_word : FnScope ["value"] ["value"] (defScope s_is_word) := ⟨rfl, rfl, rfl, by decide +kernel, rfl, by decide +kernel, by decide +kernel⟩
theorem fn_is_word {f : Addr} {fd : FuncData} {k : Nat} (F : Fun K "is_word" "is_word" s_is_word f fd) (N : Nb mg) (g_DIGITS : GS mg "DIGITS" (tx digL)) (g_LETTERS : GS mg "LETTERS" (tx letL)) (g_LONGEST_WORD : GI mg "LONGEST_WORD" 12) (C_made_of : Cal P w K mg base k "made_of" ["value", "signs", "most"] (spV ok_made_of)) : FnOk P w K mg base CX0 (k + 1) f fd ["value"] (spV (ok_is wordP)) := by
  refine F.ok sc_is_word (fun vs H Q E h => ?_) (fun cdv A outer s H vs Q E hr h => ?_)
  · obtain ⟨_, ⟨_, _, rfl, _⟩, _⟩ := h
    rfl
  · obtain ⟨z, ⟨v, d, rfl, hR, hT⟩, q⟩ := h
    refine ⟨_, (pss_one (ps_ret (pe_and (pe_cal C_made_of hr (pa_cons (pv 0) (pa_cons (pe_op op_add_str (pe_gs g_LETTERS) (pe_gs g_DIGITS)) (pa_cons (pe_gi g_LONGEST_WORD) pa_nil)))) (pe_one (pe_cmpR op_in_sign (pe_ix ix_str (pv 0) pe_int (fun _ _ => rfl)) (pe_gs g_LETTERS) rfl))))), ?_⟩
    have args : EvA (tCons (tVar 0) (tCons (tOp (fun x y H Q => ∃ i j, x = .str i ∧ y = .str j ∧ i.length + j.length ≤ sizeLine ∧ Q (.str (i ++ j)) H) (tC (.str (tx letL))) (tC (.str (tx digL)))) (tCons (tC (.int 12)) tNil))) [some v] H [v, .str (tx (letL ++ digL)), .int ((12 : Nat) : Int)] :=
      ea_cons (ev_v rfl) (ea_cons (ev_op ev_c ev_c (rv_addS (by decide))) (ea_cons ev_c ea_nil))
    rcases hT with ⟨l, rfl, hl, rfl⟩ | ⟨hk, rfl⟩
    · refine s_ret (ev_is (ev_andV (a := madeP (letL ++ digL) 12 l) (b := decide (l.headD 0 ∈ letL)) (ev_cal args fun H1 e1 => ⟨v, _, _, 12, rfl, hR.mono e1, by decide, .inl ⟨l, rfl, hl, rfl⟩⟩) fun hm => ?_) rfl) fun H1 e1 => q H1 e1
      cases hR
      have h1 := made_true hm
      have h0 : l[0]? = some (l.headD 0) := by
        cases l with
        | nil => exact absurd h1 (by decide)
        | cons a r => rfl
      exact ev_op (ev_op (ev_v rfl) (ev_cn 0) (rv_ixSn (by omega) h0)) ev_c rv_inSn
    · exact s_ret (ev_is (ev_andV (a := false) (b := false) (ev_cal args fun H1 e1 => ⟨v, _, _, 12, rfl, hR.mono e1, by decide, .inr ⟨hk, rfl⟩⟩) (fun z => nomatch z)) rfl) fun H1 e1 => q H1 e1
abbrev s_is_segment : Stmt := topS 28
theorem sc_is_segment : FnScope ["value"] ["value"] (defScope s_is_segment) := ⟨rfl, rfl, rfl, by decide +kernel, rfl, by decide +kernel, by decide +kernel⟩
theorem inV_str {l a b : List Nat} : inV (.str (tx l)) [.str (tx a), .str (tx b)] = (decide (l = a) || decide (l = b)) := by
  have e : ∀ a : List Nat, (tx a == tx l) = decide (l = a) := fun a => by
    by_cases h : l = a
    · subst h
      rw [decide_eq_true rfl]
      exact beq_self_eq_true _
    · rw [decide_eq_false h]
      exact beq_eq_false_iff_ne.mpr fun z => h (tx_inj z).symm
  show ((tx a == tx l) || ((tx b == tx l) || false)) = _
  rw [e, e, Bool.or_false]
theorem fn_is_segment {f : Addr} {fd : FuncData} {k : Nat} (F : Fun K "is_segment" "is_segment" s_is_segment f fd) (N : Nb mg) (g_DIGITS : GS mg "DIGITS" (tx digL)) (g_LETTERS : GS mg "LETTERS" (tx letL)) (g_LONGEST_SEGMENT : GI mg "LONGEST_SEGMENT" 20) (C_made_of : Cal P w K mg base k "made_of" ["value", "signs", "most"] (spV ok_made_of)) : FnOk P w K mg base CX0 (k + 1) f fd ["value"] (spV (ok_is segP)) := by
  refine F.ok sc_is_segment (fun vs H Q E h => ?_) (fun cdv A outer s H vs Q E hr h => ?_)
  · obtain ⟨_, ⟨_, _, rfl, _⟩, _⟩ := h
    rfl
  · obtain ⟨z, ⟨v, d, rfl, hR, hT⟩, q⟩ := h
    refine ⟨_, (pss_one (ps_ret (pe_and (pe_cal C_made_of hr (pa_cons (pv 0) (pa_cons (pe_op op_add_str (pe_op op_add_str (pe_gs g_LETTERS) (pe_gs g_DIGITS)) pe_str) (pa_cons (pe_gi g_LONGEST_SEGMENT) pa_nil)))) (pe_one (pe_cmpR op_notIn_seq (pv 0) (pe_tup (pa_cons pe_str (pa_cons pe_str pa_nil))) rfl))))), ?_⟩
    have args : EvA (tCons (tVar 0) (tCons (tOp (fun x y H Q => ∃ i j, x = .str i ∧ y = .str j ∧ i.length + j.length ≤ sizeLine ∧ Q (.str (i ++ j)) H) (tOp (fun x y H Q => ∃ i j, x = .str i ∧ y = .str j ∧ i.length + j.length ≤ sizeLine ∧ Q (.str (i ++ j)) H) (tC (.str (tx letL))) (tC (.str (tx digL)))) (tC (.str ".-_"))) (tCons (tC (.int 20)) tNil))) [some v] H [v, .str (tx (letL ++ digL ++ [46, 45, 95])), .int ((20 : Nat) : Int)] :=
      ea_cons (ev_v rfl) (ea_cons (ev_op (ev_op ev_c ev_c (rv_addS (by decide))) (ev_cs [46, 45, 95] (by decide +kernel)) (rv_addS (by decide))) (ea_cons ev_c ea_nil))
    rcases hT with ⟨l, rfl, hl, rfl⟩ | ⟨hk, rfl⟩
    · refine s_ret (ev_is (ev_andV (a := madeP (letL ++ digL ++ [46, 45, 95]) 20 l) (b := !(decide (l = [46]) || decide (l = [46, 46]))) (ev_cal args fun H1 e1 => ⟨v, _, _, 20, rfl, hR.mono e1, by decide, .inl ⟨l, rfl, hl, rfl⟩⟩) fun hm => ?_) rfl) fun H1 e1 => q H1 e1
      cases hR
      rw [← inV_str]
      exact ev_niU (ev_v rfl) (eu_tup (ea_cons (ev_cs [46] (by decide +kernel)) (ea_cons (ev_cs [46, 46] (by decide +kernel)) ea_nil)) (by decide)) rfl rfl
    · exact s_ret (ev_is (ev_andV (a := false) (b := false) (ev_cal args fun H1 e1 => ⟨v, _, _, 20, rfl, hR.mono e1, by decide, .inr ⟨hk, rfl⟩⟩) (fun z => nomatch z)) rfl) fun H1 e1 => q H1 e1
abbrev s_is_path : Stmt := topS 29
theorem sc_is_path : FnScope ["value", "part"] ["value"] (defScope s_is_path) := ⟨rfl, rfl, rfl, by decide +kernel, rfl, by decide +kernel, by decide +kernel⟩
/- 0 value, 1 part -/
def ok_is_path (vs : List V) (H : Hp) (z : V) : Prop := ∃ l, vs = [.str (tx l)] ∧ l.length ≤ 1000 ∧ (∀ s ∈ Txt.split (tx l) (tx [47]), s.length ≤ 1000) ∧ (Txt.split (tx l) (tx [47])).length ≤ 2000 ∧ z = .bl (pathP l)
theorem fn_is_path {f : Addr} {fd : FuncData} {k : Nat} (F : Fun K "is_path" "is_path" s_is_path f fd) (N : Nb mg) (C_is_segment : Cal P w K mg base k "is_segment" ["value"] (spV (ok_is segP))) : FnOk P w K mg base CX0 (k + 1) f fd ["value"] (spV ok_is_path) := by
  refine F.ok sc_is_path (fun vs H Q E h => ?_) (fun cdv A outer s H vs Q E hr h => ?_)
  · obtain ⟨z, ⟨_, rfl, _⟩, _⟩ := h
    rfl
  · obtain ⟨z, ⟨l, rfl, hl, hs, hn, rfl⟩, q⟩ := h
    refine ⟨_, (pss_one (ps_ret (pe_and (pe_callB call_isi (by rfl) N.isinstance PyProof.Rows.boot_isinstance (pa_cons (pv 0) (pa_cons (pe_bltn (v := .ty "str") (by rfl) N.str PyProof.Rows.boot_str rfl) pa_nil))) (pe_one (pe_callB (cr_all rfl) (by rfl) N.all PyProof.Rows.boot_all (pa_cons (pe_lc (own := [("part", 1)]) (by rfl) sc_is_path.nd (pi_list (pe_split (pv 0) pe_str)) (blkOk_by (own := [("part", 1)]) (N := ["value", "part"]) (sc := defScope s_is_path) (by decide +kernel)) (fun _ _ _ _ _ => (pg_name (i := 1) sc_is_path.nd rfl (Or.inl rfl))) (fun _ _ _ _ _ => pts_nil) (fun _ _ _ _ _ => (pe_cal C_is_segment hr (pa_cons (pv 1) pa_nil)))) pa_nil)))))), ?_⟩
    refine s_ret (ev_is (ev_andV (a := true) (ev_isi (ev_v rfl) (.str l) (by rfl)) fun _ => ev_all (bs := (Txt.split (tx l) (tx [47])).map fun s => segP s.cps.toList) ?_) ?_) fun H1 e1 => q H1 e1
    · have e : ((Txt.split (tx l) (tx [47])).map fun s => segP s.cps.toList).map V.bl = ((Txt.split (tx l) (tx [47])).map V.str).map fun v => match v with | .str s => V.bl (segP s.cps.toList) | _ => .non := by
        rw [List.map_map, List.map_map]
        rfl
      rw [e]
      refine el_lcN _ (el_split (ev_v rfl) (ev_cs [47] (by decide +kernel)) (by rfl) (by rw [tx_len]; omega)) (by rw [List.length_map]; omega) (fun _ => rfl) fun x H1 e1 hx => ?_
      obtain ⟨s, hs', rfl⟩ := List.mem_map.mp hx
      exact ev_cal (ea_cons (ev_v rfl) ea_nil) fun H2 e2 => ⟨.str s, .str s.cps.toList, rfl, .str _, .inl ⟨_, rfl, hs s hs', rfl⟩⟩
    · rw [List.all_map, Bool.true_and]
      rfl
abbrev s_name_of : Stmt := topS 24
theorem sc_name_of : FnScope ["value"] ["value"] (defScope s_name_of) := ⟨rfl, rfl, rfl, by decide +kernel, rfl, by decide +kernel, by decide +kernel⟩
def ok_name_of (vs : List V) (H : Hp) (z : V) : Prop := ∃ (v : V) (d : D), vs = [v] ∧ Rep H v d ∧ Pln d ∧ height d < 4 ∧ (octs d).length ≤ 20000 ∧ z = .str (tx ((shaN (octs d)).take 20))
theorem shaN_len (data : List Nat) : (shaN data).length = 64 := by
  unfold shaN
  rw [hexR_len]
  rfl
theorem fn_name_of {f : Addr} {fd : FuncData} {k : Nat} (F : Fun K "name_of" "name_of" s_name_of f fd) (N : Nb mg) (g_NAME_DIGITS : GI mg "NAME_DIGITS" 20) (C_sha : Cal P w K mg base k "sha" ["data"] (spV ok_sha)) (C_told : Cal P w K mg base k "told" ["value"] (spL ok_told)) : FnOk P w K mg base CX0 (k + 1) f fd ["value"] (spV ok_name_of) := by
  refine F.ok sc_name_of (fun vs H Q E h => ?_) (fun cdv A outer s H vs Q E hr h => ?_)
  · obtain ⟨_, ⟨_, _, rfl, _⟩, _⟩ := h
    rfl
  · obtain ⟨_, ⟨v, d, rfl, hR, hp, hh, ho, hz⟩, q⟩ := h
    rw [hz] at q
    refine ⟨_, (pss_one (ps_ret (pe_slice sl_str (pe_cal C_sha hr (pa_cons (pe_cal C_told hr (pa_cons (pv 0) pa_nil)) pa_nil)) po_none (po_some (pe_gi g_NAME_DIGITS))))), ?_⟩
    have hsl := shaN_len (octs d)
    have hoo := octs_oct d hp
    refine s_ret (v := .str (tx ((shaN (octs d)).take 20))) ?_ fun H1 e1 => q H1 e1
    generalize hS : shaN (octs d) = S at hsl ⊢
    rw [← cutS_take]
    exact ev_slS (ev_calP (eap_l (el_cal (ea_cons (ev_v rfl) ea_nil) fun H1 e1 => ⟨v, d, rfl, hR.mono e1, hp, hh, ho, rfl⟩) eap_nil) fun vs H1 e1 hv => by
      obtain ⟨a, _, rfl, ha, rfl⟩ := hv
      exact ⟨a, octs d, rfl, ha, by omega, hoo, by rw [hS]⟩) eo_none (eo_some (ev_cn 20)) (by omega)
end
end K01

set_option Elab.async false
set_option linter.all false
set_option maxRecDepth 100000
set_option maxHeartbeats 4000000
namespace K01
open PySem PySem.Spec PyProof.Rows L2 Evl My
section
variable {P : Program} {w : World} {K : PySem.W.Frag} {mg : Str → Option Value} {base : Heap}
abbrev s_law_mixed : Stmt := topS 31
theorem sc_law_mixed : FnScope ["number", "place", "first", "second", "third"] ["number", "place"] (defScope s_law_mixed) := ⟨rfl, rfl, rfl, by decide +kernel, rfl, by decide +kernel, by decide +kernel⟩
/- 0 number, 1 place, 2 first, 3 second, 4 third -/
def ok_mixed_ (vs : List V) (H : Hp) (z : V) : Prop := ∃ n p : Nat, vs = [.int (n : Int), .int (p : Int)] ∧ z = .int (mixF n p : Nat)
theorem fn_mixed_ {f : Addr} {fd : FuncData} {k : Nat} (F : Fun K "_law_mixed" "_law_mixed" s_law_mixed f fd) (N : Nb mg) : FnOk P w K mg base CX0 (k + 1) f fd ["number", "place"] (spV ok_mixed_) := by
  refine F.ok sc_law_mixed (fun vs H Q E h => ?_) (fun cdv A outer s H vs Q E hr h => ?_)
  · obtain ⟨_, ⟨_, _, rfl, _⟩, _⟩ := h
    rfl
  · obtain ⟨_, ⟨n, p, rfl, hz⟩, q⟩ := h
    rw [hz] at q
    refine ⟨_, (pss_cons (ps_set (i := 2) sc_law_mixed.nd rfl (Or.inl rfl) (pe_op op_mod (pe_callTy call_int1 (by rfl) N.int PyProof.Rows.boot_int (pa_cons (pe_op op_add (pe_op op_add (pe_op op_mul (pv 0) pe_int) (pe_op op_mul (pv 1) pe_int)) pe_int) pa_nil)) pe_int))
      (pss_cons (ps_set (i := 3) sc_law_mixed.nd rfl (Or.inl rfl) (pe_op op_mod (pe_callTy call_int1 (by rfl) N.int PyProof.Rows.boot_int (pa_cons (pe_op op_add (pe_op op_add (pe_op op_mulW (pv 2) (pv 2)) (pe_op op_mul pe_int (pv 2))) (pv 1)) pa_nil)) pe_int))
      (pss_cons (ps_set (i := 4) sc_law_mixed.nd rfl (Or.inl rfl) (pe_op op_mod (pe_callTy call_int1 (by rfl) N.int PyProof.Rows.boot_int (pa_cons (pe_op op_add (pe_op op_mulW (pv 3) (pv 3)) (pv 2)) pa_nil)) pe_int))
      (pss_one (ps_ret (pe_op op_add (pe_op op_mulW (pv 3) pe_int) (pv 4))))))), ?_⟩
    have l1 : (n * 48271 + p * 69621 + 11) % m89 < 2 ^ 89 := Nat.lt_trans (Nat.mod_lt _ (by decide)) (by decide)
    refine q_asg (v := .int (((n * 48271 + p * 69621 + 11) % m89 : Nat) : Int)) (ev_op (ev_int (ev_op (ev_op (ev_op (ev_v rfl) (ev_cn 48271) (rv_mulN (.inr (by decide)))) (ev_op (ev_v rfl) (ev_cn 69621) (rv_mulN (.inr (by decide)))) rv_addN) (ev_cn 11) rv_addN)) (ev_cn m89) (rv_modN (by decide))) fun H1 e1 => ?_
    unfold mixF at q
    generalize (n * 48271 + p * 69621 + 11) % m89 = a at l1 q ⊢
    have l2 : (a * a + 7 * a + p) % m107 < 2 ^ 107 := Nat.lt_trans (Nat.mod_lt _ (by decide)) (by decide)
    refine q_asg (v := .int (((a * a + 7 * a + p) % m107 : Nat) : Int)) (ev_op (ev_int (ev_op (ev_op (ev_op (ev_v rfl) (ev_v rfl) (rv_mulWN l1 l1 (by decide) (by decide) (by decide))) (ev_op (ev_cn 7) (ev_v rfl) (rv_mulN (.inl (by decide)))) rv_addN) (ev_v rfl) rv_addN)) (ev_cn m107) (rv_modN (by decide))) fun H2 e2 => ?_
    dsimp only at q
    generalize (a * a + 7 * a + p) % m107 = b at l2 q ⊢
    refine q_asg (v := .int (((b * b + a) % m89 : Nat) : Int)) (ev_op (ev_int (ev_op (ev_op (ev_v rfl) (ev_v rfl) (rv_mulWN l2 l2 (by decide) (by decide) (by decide))) (ev_v rfl) rv_addN)) (ev_cn m89) (rv_modN (by decide))) fun H3 e3 => ?_
    exact s_ret (ev_op (ev_op (ev_v rfl) (ev_cn m89) (rv_mulWN (m := 89) l2 (by decide) (by decide) (by decide) (by decide))) (ev_v rfl) rv_addN) fun H4 e4 => q H4 (((e1.trans e2).trans e3).trans e4)
abbrev s_law_rest : Stmt := topS 32
theorem sc_law_rest : FnScope ["script", "place", "fills", "number"] ["script", "place", "fills"] (defScope s_law_rest) := ⟨rfl, rfl, rfl, by decide +kernel, rfl, by decide +kernel, by decide +kernel⟩
/- 0 script, 1 place, 2 fills, 3 number -/
def ok_rest_ (K : PySem.W.Frag) (vs : List V) (H : Hp) (z : V) : Prop := ∃ (sc : Addr) (xs : List Int) (p f : Nat), vs = [.ref sc, .int (p : Int), .int (f : Int)] ∧ SqL K H sc (xs.map V.int) ∧ z = .int (restF xs p f : Nat)
theorem fn_rest_ {f : Addr} {fd : FuncData} {k : Nat} (F : Fun K "_law_rest" "_law_rest" s_law_rest f fd) (N : Nb mg) (C_law_mixed : Cal P w K mg base k "_law_mixed" ["number", "place"] (spV ok_mixed_)) : FnOk P w K mg base CX0 (k + 1) f fd ["script", "place", "fills"] (spV (ok_rest_ K)) := by
  refine F.ok sc_law_rest (fun vs H Q E h => ?_) (fun cdv A outer s H vs Q E hr h => ?_)
  · obtain ⟨_, ⟨_, _, _, _, rfl, _⟩, _⟩ := h
    rfl
  · obtain ⟨_, ⟨sc, xs, p, f, rfl, hS, hz⟩, q⟩ := h
    rw [hz] at q
    refine ⟨_, (pss_cons (ps_set (i := 3) sc_law_rest.nd rfl (Or.inl rfl) pe_int)
      (pss_cons (ps_if (pt_cmpR op_gt (pe_callB call_len_seq (by rfl) N.len PySem.boot_len (pa_cons (pv 0) pa_nil)) pe_int (nomark _)) (pss_one (ps_set (i := 3) sc_law_rest.nd rfl (Or.inl rfl) (pe_callTy call_int1 (by rfl) N.int PyProof.Rows.boot_int (pa_cons (pe_ix ix_list (pv 0) (pe_op op_mod (pe_callTy call_int1 (by rfl) N.int PyProof.Rows.boot_int (pa_cons (pv 1) pa_nil)) (pe_callB call_len_seq (by rfl) N.len PySem.boot_len (pa_cons (pv 0) pa_nil))) (fun _ _ => rfl)) pa_nil)))) pss_nil)
      (pss_cons (ps_if (pt_cmpR op_lt (pv 3) pe_int (nomark _)) (pss_one (ps_set (i := 3) sc_law_rest.nd rfl (Or.inl rfl) (pe_op op_sub pe_int (pe_op op_mul pe_int (pv 3))))) pss_nil)
      (pss_cons (ps_if (PW.pt (pw_and (pt_cmpR op_eq (pv 2) pe_int (nomark _)) (pw_and (pt_cmpR op_lt (pv 1) (pe_callB call_len_seq (by rfl) N.len PySem.boot_len (pa_cons (pv 0) pa_nil)) (nomark _)) (pw_and1 (pt_cmpR op_ge (pv 3) (pe_op op_pow pe_int pe_int) (nomark _)))))) (pss_one (ps_ret (pe_op op_sub (pv 3) (pe_op op_pow pe_int pe_int)))) pss_nil)
      (pss_one (ps_ret (pe_cal C_law_mixed hr (pa_cons (pe_op op_add (pv 3) (pe_op op_mul (pv 2) pe_int)) (pa_cons (pv 1) pa_nil))))))))), ?_⟩
    have hlen : ∀ σ' H', Ex H H' → σ'[0]? = some (some (.ref sc)) → Ev (tCB (rLenS K) (tCons (tVar 0) tNil)) σ' H' (.int (xs.length : Int)) := fun σ' H' e' s' => by
      have := ev_len (K := K) (ta := tVar 0) (ev_v s') (ex_l e' hS)
      rw [List.length_map] at this
      exact this
    obtain ⟨i0, hi0⟩ : ∃ i0 : Int, i0 = if 0 < xs.length then xs.getD (p % xs.length) 0 else 0 := ⟨_, rfl⟩
    have hn : (if 0 < xs.length then absF (xs.getD (p % xs.length) 0) else 0) = absF i0 := by
      rw [hi0]
      split <;> rfl
    unfold restF at q
    rw [hn] at q
    refine q_asg (ev_cn 0) fun H1 e1 => ?_
    refine q_ifAsg (v := .int i0) (b := decide ((0 : Int) < (xs.length : Int))) (et_test (ev_op (hlen _ _ e1 rfl) (ev_cn 0) rv_I0)) (fun hb => ?_) (fun hb => ?_) fun H2 e2 => ?_
    · have h0 : 0 < xs.length := by have := of_decide_eq_true hb; omega
      rw [if_pos h0] at hi0
      have hj : p % xs.length < xs.length := Nat.mod_lt _ h0
      exact ev_int (ev_op (ev_v rfl) (ev_op (ev_int (ev_v rfl)) (hlen _ _ e1 rfl) (rv_modN h0)) (rv_ixLn (ex_l e1 hS) (by
        rw [hi0, List.getElem?_map, List.getD_eq_getElem?_getD, List.getElem?_eq_getElem hj]
        rfl)))
    · have h0 : ¬ 0 < xs.length := by have := of_decide_eq_false hb; omega
      rw [if_neg h0] at hi0
      rw [hi0]
      rfl
    refine q_ifAsg (v := .int (absF i0 : Nat)) (b := decide (i0 < 0)) (et_test (ev_op (ev_v rfl) (ev_cn 0) rv_I0)) (fun hb => ?_) (fun hb => ?_) fun H3 e3 => ?_
    · have h0 := of_decide_eq_true hb
      refine ev_is (ev_op (ev_cn 1) (ev_op (ev_cn 2) (ev_v rfl) (rv_I (.inl ⟨by decide, by decide⟩))) rv_I0) ?_
      unfold absF
      rw [if_pos h0, Int.toNat_of_nonneg (by omega)]
      rfl
    · have h0 := of_decide_eq_false hb
      unfold absF
      rw [if_neg h0, Int.toNat_of_nonneg (by omega)]
      rfl
    have E3 := (e1.trans e2).trans e3
    generalize absF i0 = n at q ⊢
    have t18 : Ev (tOp (rI CPow fun i j => .int (i ^ j.toNat)) (tC (.int 10)) (tC (.int 18))) [some (.ref sc), some (.int (p : Int)), some (.int (f : Int)), some (.int (n : Int))] H3 (.int ((10 ^ 18 : Nat) : Int)) := ev_op (ev_cn 10) (ev_cn 18) (rv_I (by unfold CPow; decide))
    refine q_when (b := decide (f = 0) && (decide (p < xs.length) && decide (10 ^ 18 ≤ n))) (et_and (et_test (ev_is (ev_op (ev_v rfl) (ev_cn 0) (rv_eq rfl)) (congrArg V.bl (decide_eq_decide.mpr ⟨fun h => by have := V.int.inj h; omega, fun h => by rw [h]⟩)))) fun _ =>
      et_and (et_test (ev_is (ev_op (ev_v rfl) (hlen _ _ E3 rfl) rv_I0) (congrArg V.bl (decide_eq_decide.mpr (by omega))))) fun _ => et_test (ev_is (ev_op (ev_v rfl) t18 rv_I0) (congrArg V.bl (decide_eq_decide.mpr (by omega))))) (fun hb H4 e4 => ?_) fun hb H4 e4 => ?_
    · rw [Bool.and_eq_true, Bool.and_eq_true, decide_eq_true_eq, decide_eq_true_eq, decide_eq_true_eq] at hb
      rw [if_pos ⟨hb.1, hb.2.1, hb.2.2⟩] at q
      exact s_ret (ev_op (ev_v rfl) (t18.mono e4) (rv_subN hb.2.2)) fun H5 e5 => q H5 ((E3.trans e4).trans e5)
    · have hb' : ¬ (f = 0 ∧ p < xs.length ∧ 10 ^ 18 ≤ n) := fun h => by
        rw [decide_eq_true h.1, decide_eq_true h.2.1, decide_eq_true h.2.2] at hb
        exact nomatch hb
      rw [if_neg hb'] at q
      exact s_ret (ev_cal (ea_cons (ev_op (ev_v rfl) (ev_op (ev_v rfl) (ev_cn 1000003) (rv_mulN (.inr (by decide)))) rv_addN) (ea_cons (ev_v rfl) ea_nil)) fun _ _ => ⟨_, p, rfl, rfl⟩) fun H5 e5 => q H5 ((E3.trans e4).trans e5)
abbrev s_law_pool : Stmt := topS 33
theorem sc_law_pool : FnScope ["script"] ["script"] (defScope s_law_pool) := ⟨rfl, rfl, rfl, by decide +kernel, rfl, by decide +kernel, by decide +kernel⟩
def ok_pool_ (K : PySem.W.Frag) (vs : List V) (H : Hp) (z : List V) : Prop := ∃ (sc : Addr) (xs : List Int), vs = [.ref sc] ∧ SqL K H sc (xs.map V.int) ∧ z = [.ref sc, .int ((0 : Nat) : Int), .int (restF xs 0 0 : Nat), .int ((0 : Nat) : Int)]
theorem fn_pool_ {f : Addr} {fd : FuncData} {k : Nat} (F : Fun K "_law_pool" "_law_pool" s_law_pool f fd) (N : Nb mg) (C_law_rest : Cal P w K mg base k "_law_rest" ["script", "place", "fills"] (spV (ok_rest_ K))) : FnOk P w K mg base CX0 (k + 1) f fd ["script"] (spL (ok_pool_ K)) := by
  refine F.ok sc_law_pool (fun vs H Q E h => ?_) (fun cdv A outer s H vs Q E hr h => ?_)
  · obtain ⟨_, ⟨_, _, rfl, _⟩, _⟩ := h
    rfl
  · obtain ⟨_, ⟨sc, xs, rfl, hS, hz⟩, q⟩ := h
    rw [hz] at q
    refine ⟨_, (pss_one (ps_ret (pe_lst (pa_cons (pv 0) (pa_cons pe_int (pa_cons (pe_cal C_law_rest hr (pa_cons (pv 0) (pa_cons pe_int (pa_cons pe_int pa_nil)))) (pa_cons pe_int pa_nil))))))), ?_⟩
    exact s_retL (el_lst (ea_cons (ev_v rfl) (ea_cons (ev_cn 0) (ea_cons (ev_cal (ea_cons (ev_v rfl) (ea_cons (ev_cn 0) (ea_cons (ev_cn 0) ea_nil))) fun H1 e1 => ⟨sc, xs, 0, 0, rfl, ex_l e1 hS, rfl⟩) (ea_cons (ev_cn 0) ea_nil)))) (by show 4 ≤ 100000; decide)) fun p H1 hp e1 h1 => q p H1 hp e1 h1
abbrev s_law_draw : Stmt := topS 34
theorem sc_law_draw : FnScope ["pool", "limit", "value"] ["pool", "limit"] (defScope s_law_draw) := ⟨rfl, rfl, rfl, by decide +kernel, rfl, by decide +kernel, by decide +kernel⟩
/- 0 pool, 1 limit, 2 value -/
theorem fn_draw {f : Addr} {fd : FuncData} {k : Nat} (F : Fun K "_law_draw" "_law_draw" s_law_draw f fd) (N : Nb mg) (C_law_rest : Cal P w K mg base k "_law_rest" ["script", "place", "fills"] (spV (ok_rest_ K))) : FnOk P w K mg base CX0 (k + 1) f fd ["pool", "limit"] (sp_draw K) := by
  refine F.ok sc_law_draw (fun vs H Q E h => ?_) (fun cdv A outer s H vs Q E hr h => ?_)
  · obtain ⟨_, _, _, _, rfl, _⟩ := h
    rfl
  · obtain ⟨p, sc, xs, limit, rfl, hP, h0, hlim, q⟩ := h
    refine ⟨_, (pss_cut (ps_if (pt_cmpR op_le (pe_ix ix_list (pv 0) pe_int (fun _ _ => rfl)) pe_int (nomark _)) (pss_cons (ps_asg (pe_op op_add (pe_ix ix_list (pv 0) pe_int (fun _ _ => rfl)) pe_int) (pg_sub (pv 0) pe_int set_list))
      (pss_one (ps_asg (pe_cal C_law_rest hr (pa_cons (pe_ix ix_list (pv 0) pe_int (fun _ _ => rfl)) (pa_cons (pe_ix ix_list (pv 0) pe_int (fun _ _ => rfl)) (pa_cons (pe_ix ix_list (pv 0) pe_int (fun _ _ => rfl)) pa_nil)))) (pg_sub (pv 0) pe_int set_list)))) pss_nil)
      (pss_cons (ps_set (i := 2) sc_law_draw.nd rfl (Or.inl rfl) (pe_op op_mod (pe_callTy call_int1 (by rfl) N.int PyProof.Rows.boot_int (pa_cons (pe_ix ix_list (pv 0) pe_int (fun _ _ => rfl)) pa_nil)) (pv 1)))
      (pss_cons (ps_asg (pe_op op_fdivW (pe_callTy call_int1 (by rfl) N.int PyProof.Rows.boot_int (pa_cons (pe_ix ix_list (pv 0) pe_int (fun _ _ => rfl)) pa_nil)) (pv 1)) (pg_sub (pv 0) pe_int set_list))
      (pss_one (ps_ret (pv 2)))))), ?_⟩
    have hP0 := hP
    obtain ⟨r, f, hp, hS⟩ := hP
    refine q_cut (M := fun σ' H' => σ' = [some (.ref p), some (.int (limit : Int)), none] ∧ Keep p H H' ∧ ∃ r f : Nat, H' p = some (.lst [.ref sc, .int ((0 : Nat) : Int), .int (r : Int), .int (f : Int)])) ?_ ?_
    · refine s_when (b := decide ((r : Int) ≤ ((1 : Nat) : Int))) (et_test (ev_op (ev_ixL (ev_v rfl) (ev_cn 2) (sq_of hp) rfl) (ev_cn 1) rv_I0)) (fun hb H1 e1 => ?_) fun hb H1 e1 => ⟨rfl, .of e1, r, f, e1 p _ hp⟩
      refine q_setL (j := 3) (v := .int ((f + 1 : Nat) : Int)) (e1 p _ hp) (ev_op (ev_ixL (ev_v rfl) (ev_cn 3) (sq_of (e1 p _ hp)) rfl) (ev_cn 1) rv_addN) (ev_v rfl) (ev_cn 3) (by show 3 < 4; decide) fun H2 e2 => ?_
      have E2 := e1.trans e2
      have k2 : Keep p H (upd H2 p (.lst [.ref sc, .int ((0 : Nat) : Int), .int (r : Int), .int ((f + 1 : Nat) : Int)])) := (Keep.of E2).trans .upd
      refine s_setL (j := 2) (v := .int (restF xs 0 (f + 1) : Nat)) (xs := [.ref sc, .int ((0 : Nat) : Int), .int (r : Int), .int ((f + 1 : Nat) : Int)]) upd_same (ev_cal (ea_cons (ev_ixL (ev_v rfl) (ev_cn 0) (sq_of upd_same) rfl) (ea_cons (ev_ixL (ev_v rfl) (ev_cn 1) (sq_of upd_same) rfl) (ea_cons (ev_ixL (ev_v rfl) (ev_cn 3) (sq_of upd_same) rfl) ea_nil))) fun H3 e3 => ⟨sc, xs, 0, f + 1, rfl, ex_l e3 (sc_keep hp k2 hS), rfl⟩) (ev_v rfl) (ev_cn 2) (by show 2 < 4; decide) fun H3 e3 => ?_
      exact ⟨rfl, (k2.trans (.of e3)).trans .upd, _, _, upd_same⟩
    · rintro σ' H' ⟨rfl, hk, r', f', hp'⟩
      refine q_asg (v := .int ((r' % limit : Nat) : Int)) (ev_op (ev_int (ev_ixL (ev_v rfl) (ev_cn 2) (sq_of hp') rfl)) (ev_v rfl) (rv_modN h0)) fun H1 e1 => ?_
      refine q_setL (j := 2) (v := .int ((r' / limit : Nat) : Int)) (e1 p _ hp') (ev_op (ev_int (ev_ixL (ev_v rfl) (ev_cn 2) (sq_of (e1 p _ hp')) rfl)) (ev_v rfl) (rv_divWN (n := 63) h0 hlim (by decide) (by decide))) (ev_v rfl) (ev_cn 2) (by show 2 < 4; decide) fun H2 e2 => ?_
      have k3 : Keep p H (upd H2 p (.lst [.ref sc, .int ((0 : Nat) : Int), .int ((r' / limit : Nat) : Int), .int (f' : Int)])) := (hk.trans (.of (e1.trans e2))).trans .upd
      refine s_ret (ev_v rfl) fun H3 e3 => q (r' % limit) H3 (Nat.mod_lt _ h0) (G.exR ⟨k3, hP0.mk' (r := r' / limit) (f := f') k3 upd_same⟩ e3)
abbrev s_law_pick : Stmt := topS 35
theorem sc_law_pick : FnScope ["pool", "options"] ["pool", "options"] (defScope s_law_pick) := ⟨rfl, rfl, rfl, by decide +kernel, rfl, by decide +kernel, by decide +kernel⟩
/- 0 pool, 1 options -/
theorem fn_pick {f : Addr} {fd : FuncData} {k : Nat} (F : Fun K "_law_pick" "_law_pick" s_law_pick f fd) (N : Nb mg) (C_law_draw : Cal P w K mg base k "_law_draw" ["pool", "limit"] (sp_draw K)) : FnOk P w K mg base CX0 (k + 1) f fd ["pool", "options"] (sp_pick K) := by
  refine F.ok sc_law_pick (fun vs H Q E h => ?_) (fun cdv A outer s H vs Q E hr h => ?_)
  · obtain ⟨_, _, _, _, _, rfl, _⟩ := h
    rfl
  · obtain ⟨p, sc, ns, a, xs, rfl, hP, hS, hne, hx, hl, q⟩ := h
    refine ⟨_, (pss_one (ps_ret (pe_ix ix_list (pv 1) (pe_cal C_law_draw hr (pa_cons (pv 0) (pa_cons (pe_callB call_len_seq (by rfl) N.len PySem.boot_len (pa_cons (pv 1) pa_nil)) pa_nil))) (fun _ _ => rfl)))), ?_⟩
    have h0 : 0 < xs.length := List.length_pos_iff.mpr hx
    refine r_ret (r_op (r_var rfl (r_call (r_cons (r_var rfl (r_cons (r_ev (ev_len (K := K) (ev_v rfl) hS) (Ex.refl H) fun H3 e3 => r_nil ?_)))))))
    refine ⟨p, sc, ns, xs.length, rfl, hP.ex e3, h0, by omega, fun v H4 hv g => ?_⟩
    exact rv_ixLn (keep_l g.1 hne (ex_l e3 hS)) (List.getElem?_eq_getElem hv) H4 (Ex.refl H4) _ fun H5 e5 => q _ H5 (List.getElem_mem hv) ((G.exL e3 g).exR e5)
end
end K01

set_option Elab.async false
set_option linter.all false
set_option maxRecDepth 100000
set_option maxHeartbeats 4000000
namespace K01
open PySem PySem.Spec PyProof.Rows L2 Evl My
def bnd (n : Nat) : Nat := 200 * 4 ^ n
def strs8 : List (List Nat) := [[], [97], [103, 111, 32, 49], [35, 126, 32, 10], [65, 92, 98], [34, 113, 34], List.replicate 130 120, [123, 125]]
theorem strs8_ok : ∀ l ∈ strs8, l.length ≤ 130 ∧ ∀ c ∈ l, c ∈ sgns := by decide +kernel
theorem bnd_pos (n : Nat) : 200 ≤ bnd n := by
  unfold bnd
  have : 0 < 4 ^ n := Nat.pow_pos (by decide)
  omega
theorem bnd_succ (n : Nat) : bnd (n + 1) = 4 * bnd n := by unfold bnd; rw [Nat.pow_succ]; omega
theorem int_fit {i : Int} (h : i.natAbs < 2 ^ 64) : Pln (.int i) ∧ height (.int i) = 0 ∧ (octs (.int i)).length ≤ 11 := by
  refine ⟨by rw [Pln]; exact h, rfl, ?_⟩
  rw [octs]
  split
  · have := sev_len 9 i.toNat (by omega)
    rw [List.length_cons]
    omega
  · have := sev_len 9 (-i - 1).toNat (by omega)
    rw [List.length_cons]
    omega
theorem PlnL_app : ∀ {a b : List D}, PlnL a → PlnL b → PlnL (a ++ b)
  | [], _, _, h => h
  | d :: a, b, h, g => by rw [PlnL] at h; rw [List.cons_append, PlnL]; exact ⟨h.1, PlnL_app h.2 g⟩
theorem heightL_app : ∀ {a b : List D}, heightL (a ++ b) = max (heightL a) (heightL b)
  | [], b => by rw [List.nil_append, heightL, Nat.zero_max]
  | d :: a, b => by rw [List.cons_append, heightL, heightL, heightL_app, Nat.max_assoc]
theorem rv_mulS {H : Hp} : RV rMulS (.str (tx [120])) (.int ((130 : Nat) : Int)) H (.str (tx (List.replicate 130 120))) := fun H1 _ Q q =>
  ⟨tx [120], ((130 : Nat) : Int), rfl, rfl, by unfold MulOk; decide, by rw [show Txt.mul (tx [120]) ((130 : Nat) : Int) = tx (List.replicate 130 120) by decide +kernel]; exact q H1 (Ex.refl H1)⟩
section
variable {P : Program} {w : World} {K : PySem.W.Frag} {mg : Str → Option Value} {base : Heap}
abbrev s_law_value : Stmt := topS 37
theorem sc_law_value : FnScope ["pool", "deep", "form", "number", "k"] ["pool", "deep"] (defScope s_law_value) := ⟨rfl, rfl, rfl, by decide +kernel, rfl, by decide +kernel, by decide +kernel⟩
/- 0 pool*, 1 deep*, 2 form, 3 number, 4 k -/
def sp_value (K : PySem.W.Frag) (h : Nat) : Sp := fun vs H Q _ => ∃ (p sc : Addr) (ns : List Int) (deep : Nat), vs = [.ref p, .int (deep : Int)] ∧ Pool K H p sc ns ∧ deep < h ∧ deep ≤ 10 ∧ ∀ v d H', Rep H' v d → Pln d → height d ≤ deep → (octs d).length ≤ bnd deep → G K p sc ns H H' → Q v H'
theorem fn_value {f : Addr} {fd : FuncData} {k h : Nat} (F : Fun K "_law_value" "_law_value" s_law_value f fd) (N : Nb mg) (C_law_draw : Cal P w K mg base k "_law_draw" ["pool", "limit"] (sp_draw K)) (C_law_pick : Cal P w K mg base k "_law_pick" ["pool", "options"] (sp_pick K))
    (C_law_value : Cal P w K mg base k "_law_value" ["pool", "deep"] (sp_value K h)) : FnOk P w K mg base CX0 (k + 1) f fd ["pool", "deep"] (sp_value K (h + 1)) := by
  refine F.ok sc_law_value (fun vs H Q E h => ?_) (fun cdv A outer s H vs Q E hr h => ?_)
  · obtain ⟨_, _, _, _, rfl, _⟩ := h
    rfl
  · obtain ⟨p, sc, ns, deep, rfl, hP, hh, hd, q⟩ := h
    refine ⟨_, (pss_cons (ps_set (i := 2) sc_law_value.nd rfl (Or.inl rfl) (pe_cal C_law_draw hr (pa_cons (pv 0) (pa_cons pe_int pa_nil))))
      (pss_cons (ps_if (pt_cmpR op_lt (pv 2) pe_int (nomark _)) (pss_one (ps_ret (pe_cal C_law_pick hr (pa_cons (pv 0) (pa_cons (pe_lst (pa_cons pe_non (pa_cons pe_bl (pa_cons pe_bl pa_nil)))) pa_nil))))) pss_nil)
      (pss_cons (ps_if (PW.pt (pw_or (pt_cmpR op_lt (pv 2) pe_int (nomark _)) (pw_or1 (pt_cmpR op_eq (pv 1) pe_int (nomark _))))) (pss_cons (ps_set (i := 3) sc_law_value.nd rfl (Or.inl rfl) (pe_cal C_law_draw hr (pa_cons (pv 0) (pa_cons (pe_cal C_law_pick hr (pa_cons (pv 0) (pa_cons (pe_lst (pa_cons pe_int (pa_cons pe_int (pa_cons pe_int (pa_cons (pe_op op_pow pe_int pe_int) pa_nil))))) pa_nil))) pa_nil))))
      (pss_one (ps_ret (pe_ifExp (pt_cmpR op_eq (pe_cal C_law_draw hr (pa_cons (pv 0) (pa_cons pe_int pa_nil))) pe_int (nomark _)) (pv 3) (pe_un un_neg (pv 3)))))) pss_nil)
      (pss_cons (ps_if (pt_cmpR op_lt (pv 2) pe_int (nomark _)) (pss_one (ps_ret (pe_cal C_law_pick hr (pa_cons (pv 0) (pa_cons (pe_lst (pa_cons pe_str (pa_cons pe_str (pa_cons pe_str (pa_cons pe_str (pa_cons pe_str (pa_cons pe_str (pa_cons (pe_op op_mulS pe_str pe_int) (pa_cons pe_str pa_nil))))))))) pa_nil))))) pss_nil)
      (pss_one (ps_ret (pe_callTy call_tuple_of (by rfl) N.tuple PyProof.Rows.boot_tuple (pa_cons (pe_lc (own := [("k", 4)]) (by rfl) sc_law_value.nd (pi_range1 rfl N.range (pa_cons (pe_cal C_law_draw hr (pa_cons (pv 0) (pa_cons pe_int pa_nil))) pa_nil)) (blkOk_by (own := [("k", 4)]) (N := ["pool", "deep", "form", "number", "k"]) (sc := defScope s_law_value) (by decide +kernel)) (fun _ _ _ _ _ => (pg_name (i := 4) sc_law_value.nd rfl (Or.inl rfl))) (fun _ _ _ _ _ => pts_nil) (fun _ _ _ _ _ => (pe_cal C_law_value hr (pa_cons (pv 0) (pa_cons (pe_op op_sub (pv 1) pe_int) pa_nil))))) pa_nil)))))))), ?_⟩
    have b0 := bnd_pos deep
    refine r_asg (r_draw (n := 9) hP (ea_cons (ev_v rfl) (ea_cons (ev_cn 9) ea_nil)) (by decide) (by decide) fun form H1 hf g1 => ?_)
    refine q_when (b := decide ((form : Int) < ((2 : Nat) : Int))) (et_test (ev_op (ev_v rfl) (ev_cn 2) rv_I0)) (fun _ H2 e2 => ?_) fun _ H2 e2 => ?_
    · have g2 := g1.exR e2
      refine r_ret (r_pick g2.2 (ev_v rfl) (el_lst (ea_cons ev_c (ea_cons ev_c (ea_cons ev_c ea_nil))) (by decide)) (fun z => nomatch z) (by decide) fun v H' hv g => ?_)
      have hv' : v = .non ∨ v = .bl true ∨ v = .bl false := by simpa using hv
      rcases hv' with rfl | rfl | rfl
      · exact q _ .non H' .non (by rw [Pln]; trivial) (Nat.zero_le _) (by show 1 ≤ _; omega) (g2.trans g)
      · exact q _ (.bl true) H' (.bl _) (by rw [Pln]; trivial) (Nat.zero_le _) (by show 1 ≤ _; omega) (g2.trans g)
      · exact q _ (.bl false) H' (.bl _) (by rw [Pln]; trivial) (Nat.zero_le _) (by show 1 ≤ _; omega) (g2.trans g)
    have g2 := g1.exR e2
    refine q_when (b := decide ((form : Int) < ((5 : Nat) : Int)) || decide (deep = 0)) (et_or (et_test (ev_op (ev_v rfl) (ev_cn 5) rv_I0)) fun _ => et_test (ev_is (ev_op (ev_v rfl) (ev_cn 0) (rv_eq rfl)) (congrArg V.bl (decide_eq_decide.mpr ⟨fun h => by have := V.int.inj h; omega, fun h => by rw [h]⟩)))) (fun _ H3 e3 => ?_) fun hb H3 e3 => ?_
    · have g3 := g2.exR e3
      refine r_asg (r_call (r_cons (r_var (v := .ref p) rfl (r_cons (r_pick (xs := [.int (3 : Nat), .int (130 : Nat), .int (70000 : Nat), .int (10 ^ 12 : Nat)]) g3.2 (ev_v rfl) (el_lst (ea_cons (ev_cn 3) (ea_cons (ev_cn 130) (ea_cons (ev_cn 70000) (ea_cons (ev_op (ev_cn 10) (ev_cn 12) (rv_I (by unfold CPow; decide))) ea_nil)))) (by decide)) (fun z => nomatch z) (by decide) fun v H4 hv g => r_nil ?_)))))
      have hv' : ∃ n : Nat, v = .int (n : Int) ∧ 0 < n ∧ n ≤ 10 ^ 12 := by
        have : v = .int (3 : Nat) ∨ v = .int (130 : Nat) ∨ v = .int (70000 : Nat) ∨ v = .int (10 ^ 12 : Nat) := by simpa using hv
        rcases this with rfl | rfl | rfl | rfl
        · exact ⟨3, rfl, by decide, by decide⟩
        · exact ⟨130, rfl, by decide, by decide⟩
        · exact ⟨70000, rfl, by decide, by decide⟩
        · exact ⟨10 ^ 12, rfl, by decide, by decide⟩
      obtain ⟨n, rfl, n0, n1⟩ := hv'
      have g4 := g3.trans g
      refine ⟨p, sc, ns, n, rfl, g4.2, n0, by omega, fun num H5 hnum g5 => ?_⟩
      have g5' := g4.trans g5
      refine r_ret (r_if (r_test (r_op (r_draw (n := 2) g5'.2 (ea_cons (ev_v rfl) (ea_cons (ev_cn 2) ea_nil)) (by decide) (by decide) fun b H6 hb g6 => r_c ⟨rfl, _, rfl, ?_⟩))))
      have g6' := g5'.trans g6
      split
      · obtain ⟨f1, f2, f3⟩ := int_fit (i := (num : Int)) (by omega)
        exact r_var rfl (q _ (.int num) H6 (.int _) f1 (by omega) (by omega) g6')
      · obtain ⟨f1, f2, f3⟩ := int_fit (i := -(num : Int)) (by omega)
        exact r_ev (ev_un (ev_v rfl) ru_neg) (Ex.refl H6) fun H7 e7 => q _ (.int (-(num : Int))) H7 (.int _) f1 (by omega) (by omega) (g6'.exR e7)
    have g3 := g2.exR e3
    have hd0 : deep ≠ 0 := fun e => by
      rw [decide_eq_true e, Bool.or_true] at hb
      exact nomatch hb
    refine q_when (b := decide ((form : Int) < ((7 : Nat) : Int))) (et_test (ev_op (ev_v rfl) (ev_cn 7) rv_I0)) (fun _ H4 e4 => ?_) fun _ H4 e4 => ?_
    · have g4 := g3.exR e4
      refine r_ret (r_pick (xs := strs8.map fun l => .str (tx l)) g4.2 (ev_v rfl) ?_ (fun z => nomatch z) (by decide) fun v H' hv g => ?_)
      · exact el_lst (ea_cons (ev_cs [] (by decide +kernel)) (ea_cons (ev_cs [97] (by decide +kernel)) (ea_cons (ev_cs [103, 111, 32, 49] (by decide +kernel)) (ea_cons (ev_cs [35, 126, 32, 10] (by decide +kernel)) (ea_cons (ev_cs [65, 92, 98] (by decide +kernel)) (ea_cons (ev_cs [34, 113, 34] (by decide +kernel))
          (ea_cons (ev_op (ev_cs [120] (by decide +kernel)) (ev_cn 130) rv_mulS) (ea_cons (ev_cs [123, 125] (by decide +kernel)) ea_nil)))))))) (by decide)
      · obtain ⟨l, hl, rfl⟩ := List.mem_map.mp hv
        obtain ⟨l1, l2⟩ := strs8_ok l hl
        have := sev_len 9 l.length (Nat.lt_of_le_of_lt l1 (by decide))
        refine q _ (.str l) H' (.str l) (by rw [Pln]; exact ⟨by omega, l2⟩) (Nat.zero_le _) ?_ (g4.trans g)
        rw [octs, List.length_cons, List.length_append, List.length_map]
        omega
    have g4 := g3.exR e4
    have hd1 : bnd deep = 4 * bnd (deep - 1) := by
      rw [← bnd_succ]
      congr 1
      omega
    have b1 := bnd_pos (deep - 1)
    refine r_ret (r_cb (r_cons ?_))
    refine r_lcR1 (r_cons (r_draw (n := 4) g4.2 (ea_cons (ev_v rfl) (ea_cons (ev_cn 4) ea_nil)) (by decide) (by decide) fun n H5 hn g5 => r_nil ?_))
    refine ⟨(n : Int), rfl, by omega, by omega, fun Dl hD => ?_⟩
    rw [Int.toNat_natCast]
    have P5 := g5.2
    have G5 := g4.trans g5
    refine ⟨fun i m H' => m = n - i ∧ i ≤ n ∧ G K p sc ns H5 H' ∧ ∃ vs ds, H' Dl = some (.lst vs) ∧ Reps H' vs ds ∧ PlnL ds ∧ heightL ds ≤ deep - 1 ∧ ds.length = i ∧ (octsL ds).length ≤ i * bnd (deep - 1), ⟨n, rfl, Nat.zero_le _, G.new P5 (G.refl P5) hD, [], [], upd_same, .nil, by rw [PlnL]; trivial, by rw [heightL]; omega, rfl, by rw [octsL]; exact Nat.zero_le _⟩, ?_⟩
    rintro i m H' ⟨rfl, hi, gg, us, ds, hl, hr', hp', hh', hlen, ho'⟩
    by_cases hlt : i < n
    · refine .inr ⟨hlt, fun H' => G K p sc ns H5 H' ∧ ∃ vs ds, H' Dl = some (.lst vs) ∧ Reps H' vs ds ∧ PlnL ds ∧ heightL ds ≤ deep - 1 ∧ ds.length = i + 1 ∧ (octsL ds).length ≤ (i + 1) * bnd (deep - 1), fun H2 p => ⟨n - (i + 1), by omega, rfl, hlt, p⟩, fun x H2 y => ?_⟩
      obtain ⟨rfl, rfl⟩ := y
      refine ⟨rfl, tyes_ (iteT ?_)⟩
      refine r_call (r_cons (r_var (v := .ref p) rfl (r_cons (r_ev (ev_op (ev_v rfl) (ev_cn 1) (rv_subN (a := deep) (b := 1) (by omega))) (Ex.refl _) fun H6 e6 => r_nil ?_))))
      refine ⟨p, sc, ns, deep - 1, rfl, gg.2.ex e6, by omega, by omega, fun v d H7 rv pv hv ov g7 => ⟨us, ?_, ?_, ?_⟩⟩
      · exact g7.1 Dl _ (P5.ne hD) (e6 Dl _ hl)
      · have := hr'.len
        exact sz_lt (by omega)
      · have G7 := (gg.exR e6).trans g7
        have l7 : H7 Dl = some (.lst us) := g7.1 Dl _ (P5.ne hD) (e6 Dl _ hl)
        have no7 : ∀ ws, H7 Dl ≠ some (.tup ws) := fun ws e => by
          rw [l7] at e
          exact nomatch Option.some.inj e
        refine ⟨G.new P5 G7 hD, us ++ [v], ds ++ [d], upd_same, (Reps.off .upd no7 hp' (Reps.g g7 (gg.2.ex e6) hp' (Reps.mono e6 hr'))).append (.cons (Rep.off .upd no7 pv rv) .nil), PlnL_app hp' (by rw [PlnL, PlnL]; exact ⟨pv, trivial⟩), ?_, by rw [List.length_append, hlen]; rfl, ?_⟩
        · rw [heightL_app, heightL, heightL]
          omega
        · rw [octsL_app, List.length_append, octsL, octsL, List.append_nil, Nat.succ_mul]
          omega
    · have e0 : i = n := by omega
      subst e0
      refine .inl ⟨Nat.le_refl _, ?_⟩
      refine r_nil ⟨Dl, us, rfl, .inl ⟨sq_of hl, fun l hl2 => ?_⟩⟩
      have hsl := sev_len 9 ds.length (by omega)
      have h3 : ds.length * bnd (deep - 1) ≤ 3 * bnd (deep - 1) := Nat.mul_le_mul_right _ (by omega)
      refine q (.ref l) (.tup ds) _ (.tup upd_same (Reps.mono (Ex.new hl2) hr')) (by rw [Pln]; exact ⟨by omega, hp'⟩) (by rw [height]; omega) ?_ ((G5.trans gg).exR (Ex.new hl2))
      rw [octs, List.length_cons, List.length_append]
      rw [hlen] at h3
      omega
theorem cal_value {f : Addr} {fd : FuncData} {k : Nat} (F : Fun K "_law_value" "_law_value" s_law_value f fd) (hb : Binds K fd ["pool", "deep"] []) (hk : PySem.W.keepIn K (.ref f) = true) (hm : mg "_law_value" = some (.ref f)) (N : Nb mg)
    (C_law_draw : Cal P w K mg base k "_law_draw" ["pool", "limit"] (sp_draw K)) (C_law_pick : Cal P w K mg base k "_law_pick" ["pool", "options"] (sp_pick K)) : ∀ h, Cal P w K mg base (k + h) "_law_value" ["pool", "deep"] (sp_value K h)
  | 0 => ⟨f, fd, ⟨fun vs H Q E h => by obtain ⟨_, _, _, _, _, _, h, _⟩ := h; exact (Nat.not_lt_zero _ h).elim, fun A outer s H args us vs Q E _ _ _ _ h => by obtain ⟨_, _, _, _, _, _, h, _⟩ := h; exact (Nat.not_lt_zero _ h).elim⟩, hb, hk, hm⟩
  | h + 1 => ⟨f, fd, fn_value F N (C_law_draw.mono (Nat.le_add_right k h)) (C_law_pick.mono (Nat.le_add_right k h)) (cal_value F hb hk hm N C_law_draw C_law_pick h), hb, hk, hm⟩
end
end K01

set_option Elab.async false
set_option linter.all false
set_option maxRecDepth 100000
set_option maxHeartbeats 4000000
namespace K01
open PySem PySem.Spec PyProof.Rows L2 Evl My
mutual
def Wid : D → Prop
  | .tup ds => ds.length ≤ 10000 ∧ WidL ds
  | .lst ds => ds.length ≤ 10000 ∧ WidL ds
  | _ => True
def WidL : List D → Prop
  | [] => True
  | d :: ds => Wid d ∧ WidL ds
end
theorem WidL_get : ∀ {ds : List D} {i : Nat} {d : D}, WidL ds → ds[i]? = some d → Wid d
  | [], _, _, _, h => nomatch h
  | d :: ds, 0, _, p, h => by cases h; rw [WidL] at p; exact p.1
  | d :: ds, i + 1, _, p, h => by rw [WidL] at p; exact WidL_get (ds := ds) (i := i) p.2 h
theorem sameL_no : ∀ {a b : List D} {i : Nat} {x y : D}, a[i]? = some x → b[i]? = some y → sameD x y = false → sameL a b = false
  | [], _, _, _, _, h, _, _ => nomatch h
  | _ :: _, [], _, _, _, _, h, _ => nomatch h
  | a :: as, b :: bs, 0, x, y, h, g, e => by cases h; cases g; rw [sameL, e]; rfl
  | a :: as, b :: bs, i + 1, x, y, h, g, e => by rw [sameL, sameL_no (i := i) (a := as) (b := bs) h g e, Bool.and_false]
theorem sameL_len : ∀ {a b : List D}, a.length ≠ b.length → sameL a b = false
  | [], [], h => (h rfl).elim
  | [], _ :: _, _ => by rw [sameL] <;> (intros; first | contradiction | (intro; contradiction))
  | _ :: _, [], _ => by rw [sameL] <;> (intros; first | contradiction | (intro; contradiction))
  | a :: as, b :: bs, h => by
    rw [sameL, sameL_len (a := as) (b := bs) (fun e => h (congrArg Nat.succ e)), Bool.and_false]
theorem sameL_yes : ∀ {a b : List D}, a.length = b.length → (∀ (i : Nat) x y, a[i]? = some x → b[i]? = some y → sameD x y = true) → sameL a b = true
  | [], [], _, _ => by rw [sameL]
  | [], _ :: _, h, _ => nomatch h
  | _ :: _, [], h, _ => nomatch h
  | a :: as, b :: bs, h, g => by rw [sameL, g 0 a b rfl rfl, sameL_yes (a := as) (b := bs) (Nat.succ.inj h) fun i x y h1 h2 => g (i + 1) x y h1 h2]; rfl
def isTD : D → Bool
  | .tup _ => true
  | _ => false
def isLD : D → Bool
  | .lst _ => true
  | _ => false
def isSD : D → Bool
  | .str _ => true
  | _ => false
def isID : D → Bool
  | .int _ => true
  | .bl _ => true
  | _ => false
def isBD : D → Bool
  | .bl _ => true
  | _ => false
theorem kTD (d : D) : kitB (tyD d) "tuple" = some (isTD d) := by cases d <;> rfl
theorem kLD (d : D) : kitB (tyD d) "list" = some (isLD d) := by cases d <;> rfl
theorem kSD (d : D) : kitB (tyD d) "str" = some (isSD d) := by cases d <;> rfl
theorem kID (d : D) : kitB (tyD d) "int" = some (isID d) := by cases d <;> rfl
theorem kBD (d : D) : kitB (tyD d) "bool" = some (isBD d) := by cases d <;> rfl
theorem kDD (d : D) : kitB (tyD d) "dict" = some false := by cases d <;> rfl
section
variable {P : Program} {w : World} {K : PySem.W.Frag} {mg : Str → Option Value} {base : Heap}
theorem ev_isN {te : TE} {σ : L2.St} {H : Hp} {v : V} (h : Ev te σ H v) : Ev (tOp (fun x y H Q => y = .non ∧ Q (.bl (decide (x = .non))) H) te (tC .non)) σ H (.bl (decide (v = .non))) := fun H1 e Q q =>
  h H1 e _ fun H2 e2 => ⟨rfl, q H2 e2⟩
theorem ev_isBA {te : TE} {σ : L2.St} {H : Hp} {v : V} {b : Bool} (h : Ev te σ H v) : Ev (tOp rIsBA te (tC (.bl b))) σ H (.bl (decide (v = .bl b))) := fun H1 e Q q =>
  h H1 e _ fun H2 e2 => ⟨b, rfl, q H2 e2⟩
theorem ev_lenQ {σ : L2.St} {H : Hp} {ta : TE} {p : Addr} {xs : List V} (ha : Ev ta σ H (.ref p)) (h : SqL K H p xs ∨ SqT K H p xs) : Ev (tCB (rLenS K) (tCons ta tNil)) σ H (.int (xs.length : Int)) := by
  rcases h with h | h
  · exact ev_len ha h
  · exact ev_lenT ha h
theorem rv_ixQ {H : Hp} {p : Addr} {xs : List V} {i : Nat} {v : V} (h : SqL K H p xs ∨ SqT K H p xs) (ha : xs[i]? = some v) : RV (rIx K) (.ref p) (.int (i : Int)) H v := by
  rcases h with h | h
  · exact fun H1 e Q q => .inl (rv_ixLn h ha H1 e Q q)
  · exact fun H1 e Q q => .inr (.inl (rv_ixTn h ha H1 e Q q))
theorem ex_q {H H' : Hp} {p : Addr} {xs : List V} (e : Ex H H') (h : SqL K H p xs ∨ SqT K H p xs) : SqL K H' p xs ∨ SqT K H' p xs := h.imp (ex_l e) (ex_t e)
abbrev s_law_same : Stmt := topS 36
theorem sc_law_same : FnScope ["actual", "due", "key", "k"] ["actual", "due"] (defScope s_law_same) := ⟨rfl, rfl, rfl, by decide +kernel, rfl, by decide +kernel, by decide +kernel⟩
/- 0 actual, 1 due, 2 key, 3 k -/
def ok_same (h : Nat) (vs : List V) (H : Hp) (z : V) : Prop := ∃ (a b : V) (d1 d2 : D), vs = [a, b] ∧ Rep H a d1 ∧ Rep H b d2 ∧ Wid d2 ∧ height d2 < h ∧ z = .bl (sameD d1 d2)
theorem fn_same {f : Addr} {fd : FuncData} {k h : Nat} (F : Fun K "_law_same" "_law_same" s_law_same f fd) (N : Nb mg) (C_law_same : Cal P w K mg base k "_law_same" ["actual", "due"] (spV (ok_same h))) : FnOk P w K mg base CX0 (k + 1) f fd ["actual", "due"] (spV (ok_same (h + 1))) := by
  refine F.ok sc_law_same (fun vs H Q E h => ?_) (fun cdv A outer s H vs Q E hr h => ?_)
  · obtain ⟨_, ⟨_, _, _, _, rfl, _⟩, _⟩ := h
    rfl
  · obtain ⟨_, ⟨a, b, d1, d2, rfl, r1, r2, hw, hh, hz⟩, q⟩ := h
    rw [hz] at q
    refine ⟨_, (pss_cons (ps_if (pt_cmpR op_isN (pv 1) pe_non (nomark _)) (pss_one (ps_ret (pe_cmpR op_isN (pv 0) pe_non (nomark _)))) pss_nil)
      (pss_cons (ps_if (pt_cmpR op_isBA (pv 1) pe_bl (nomark _)) (pss_one (ps_ret (pe_cmpR op_isBA (pv 0) pe_bl (nomark _)))) pss_nil)
      (pss_cons (ps_if (pt_cmpR op_isBA (pv 1) pe_bl (nomark _)) (pss_one (ps_ret (pe_cmpR op_isBA (pv 0) pe_bl (nomark _)))) pss_nil)
      (pss_cons (ps_if (pt_val (pe_callB call_isi (by rfl) N.isinstance PyProof.Rows.boot_isinstance (pa_cons (pv 1) (pa_cons (pe_bltn (v := .ty "int") (by rfl) N.int PyProof.Rows.boot_int rfl) pa_nil)))) (pss_one (ps_ret (pe_and (pe_callB call_isi (by rfl) N.isinstance PyProof.Rows.boot_isinstance (pa_cons (pv 0) (pa_cons (pe_bltn (v := .ty "int") (by rfl) N.int PyProof.Rows.boot_int rfl) pa_nil))) (pe_and (pe_not (pe_callB call_isi (by rfl) N.isinstance PyProof.Rows.boot_isinstance (pa_cons (pv 0) (pa_cons (pe_bltn (v := .ty "bool") (by rfl) N.bool PyProof.Rows.boot_bool rfl) pa_nil)))) (pe_one (pe_cmpR op_eq (pv 0) (pv 1) (nomark _))))))) pss_nil)
      (pss_cons (ps_if (pt_val (pe_callB call_isi (by rfl) N.isinstance PyProof.Rows.boot_isinstance (pa_cons (pv 1) (pa_cons (pe_bltn (v := .ty "str") (by rfl) N.str PyProof.Rows.boot_str rfl) pa_nil)))) (pss_one (ps_ret (pe_and (pe_callB call_isi (by rfl) N.isinstance PyProof.Rows.boot_isinstance (pa_cons (pv 0) (pa_cons (pe_bltn (v := .ty "str") (by rfl) N.str PyProof.Rows.boot_str rfl) pa_nil))) (pe_one (pe_cmpR op_eq (pv 0) (pv 1) (nomark _)))))) pss_nil)
      (pss_cons (ps_if (pt_val (pe_callB call_isi (by rfl) N.isinstance PyProof.Rows.boot_isinstance (pa_cons (pv 1) (pa_cons (pe_bltn (v := .ty "dict") (by rfl) N.dict PyProof.Rows.boot_dict rfl) pa_nil)))) pss_never pss_nil)
      (pss_cons (ps_if (PW.pt (pw_or (pt_cmpR op_ne (pe_callB call_isi (by rfl) N.isinstance PyProof.Rows.boot_isinstance (pa_cons (pv 0) (pa_cons (pe_bltn (v := .ty "tuple") (by rfl) N.tuple PyProof.Rows.boot_tuple rfl) pa_nil))) (pe_callB call_isi (by rfl) N.isinstance PyProof.Rows.boot_isinstance (pa_cons (pv 1) (pa_cons (pe_bltn (v := .ty "tuple") (by rfl) N.tuple PyProof.Rows.boot_tuple rfl) pa_nil))) (nomark _)) (pw_or1 (pt_cmpR op_ne (pe_callB call_isi (by rfl) N.isinstance PyProof.Rows.boot_isinstance (pa_cons (pv 0) (pa_cons (pe_bltn (v := .ty "list") (by rfl) N.list PyProof.Rows.boot_list rfl) pa_nil))) (pe_callB call_isi (by rfl) N.isinstance PyProof.Rows.boot_isinstance (pa_cons (pv 1) (pa_cons (pe_bltn (v := .ty "list") (by rfl) N.list PyProof.Rows.boot_list rfl) pa_nil))) (nomark _))))) (pss_one (ps_ret pe_bl)) pss_nil)
      (pss_cons (ps_if (pt_cmpR op_ne (pe_callB call_len_seq (by rfl) N.len PySem.boot_len (pa_cons (pv 0) pa_nil)) (pe_callB call_len_seq (by rfl) N.len PySem.boot_len (pa_cons (pv 1) pa_nil)) (nomark _)) (pss_one (ps_ret pe_bl)) pss_nil)
      (pss_cons (ps_for PassesOwn.never rfl (pi_range1 rfl N.range (pa_cons (pe_callB call_len_seq (by rfl) N.len PySem.boot_len (pa_cons (pv 1) pa_nil)) pa_nil)) (pg_name (i := 3) sc_law_same.nd rfl (Or.inl rfl)) (pss_one (ps_if (pt_not (pt_val (pe_cal C_law_same hr (pa_cons (pe_ix ix_seq (pv 0) (pv 3) (fun _ _ => rfl)) (pa_cons (pe_ix ix_seq (pv 1) (pv 3) (fun _ _ => rfl)) pa_nil))))) (pss_one (ps_ret pe_bl)) pss_nil)))
      (pss_one (ps_ret pe_bl))))))))))), ?_⟩
    have isi0 : ∀ {T : String} {σ : L2.St} {H' : Hp} {c : Bool}, Ex H H' → σ[0]? = some (some a) → kitB (tyD d1) T = some c → Ev (tCB (rIsi K) (tCons (tVar 0) (tCons (tC (.ty T)) tNil))) σ H' (.bl c) := fun e hv hk => ev_isi (ev_v hv) (r1.mono e) hk
    have isi1 : ∀ {T : String} {σ : L2.St} {H' : Hp} {c : Bool}, Ex H H' → σ[1]? = some (some b) → kitB (tyD d2) T = some c → Ev (tCB (rIsi K) (tCons (tVar 1) (tCons (tC (.ty T)) tNil))) σ H' (.bl c) := fun e hv hk => ev_isi (ev_v hv) (r2.mono e) hk
    refine q_when (et_isN (ev_v rfl)) (fun hb H1 e1 => ?_) fun nN H1 e1 => ?_
    · have hv := of_decide_eq_true hb
      subst hv
      cases r2
      exact s_ret (ev_is (ev_isN (ev_v rfl)) (by cases r1 <;> rfl)) fun H2 e2 => q H2 (e1.trans e2)
    refine q_when (et_test (ev_isBA (b := true) (ev_v rfl))) (fun hb H2 e2 => ?_) fun nT H2 e2 => ?_
    · have hv := of_decide_eq_true hb
      subst hv
      cases r2
      exact s_ret (ev_is (ev_isBA (ev_v rfl)) (by cases r1 <;> first | rfl | (rename_i c; cases c <;> rfl))) fun H3 e3 => q H3 ((e1.trans e2).trans e3)
    refine q_when (et_test (ev_isBA (b := false) (ev_v rfl))) (fun hb H3 e3 => ?_) fun nF H3 e3 => ?_
    · have hv := of_decide_eq_true hb
      subst hv
      cases r2
      exact s_ret (ev_is (ev_isBA (ev_v rfl)) (by cases r1 <;> first | rfl | (rename_i c; cases c <;> rfl))) fun H4 e4 => q H4 (((e1.trans e2).trans e3).trans e4)
    have E3 := (e1.trans e2).trans e3
    have nb : isBD d2 = false := by
      cases r2 with
      | bl c =>
        cases c with
        | true => exact (of_decide_eq_false nT rfl).elim
        | false => exact (of_decide_eq_false nF rfl).elim
      | _ => rfl
    have nn : d2 ≠ .non := fun e => by
      subst e
      cases r2
      exact of_decide_eq_false nN rfl
    refine q_when (et_test (isi1 E3 rfl (kID d2))) (fun hb H4 e4 => ?_) fun nI H4 e4 => ?_
    · have E4 := E3.trans e4
      cases r2 with
      | int i =>
        refine s_ret (ev_is (ev_andV (isi0 E4 rfl (kID d1)) fun h1 => ev_andV (b := sameD d1 (.int i)) (ev_notV (isi0 E4 rfl (kBD d1))) fun h2 => ?_) ?_) fun H5 e5 => q H5 (E4.trans e5)
        · cases r1 with
          | int j =>
            refine ev_is (ev_op (ev_v rfl) (ev_v rfl) (rv_eq rfl)) (congrArg V.bl ?_)
            rw [sameD]
            exact decide_eq_decide.mpr ⟨fun h => V.int.inj h, fun h => by rw [h]⟩
          | bl c => exact nomatch h2
          | _ => exact nomatch h1
        · cases r1 with
          | int j => rfl
          | _ => rfl
      | bl c => exact nomatch nb
      | _ => exact nomatch hb
    have E4 := E3.trans e4
    refine q_when (et_test (isi1 E4 rfl (kSD d2))) (fun hb H5 e5 => ?_) fun nS H5 e5 => ?_
    · have E5 := E4.trans e5
      cases r2 with
      | str l =>
        refine s_ret (ev_is (ev_andV (b := sameD d1 (.str l)) (isi0 E5 rfl (kSD d1)) fun h1 => ?_) ?_) fun H6 e6 => q H6 (E5.trans e6)
        · cases r1 with
          | str j =>
            refine ev_is (ev_op (ev_v rfl) (ev_v rfl) (rv_eq rfl)) (congrArg V.bl ?_)
            rw [sameD]
            exact decide_eq_decide.mpr ⟨fun h => tx_inj (V.str.inj h), fun h => by rw [h]⟩
          | _ => exact nomatch h1
        · cases r1 with
          | str j => rfl
          | _ => rfl
      | _ => exact nomatch hb
    have E5 := E4.trans e5
    refine q_when (et_test (isi1 E5 rfl (kDD d2))) (fun z => nomatch z) fun _ H6 e6 => ?_
    have E6 := E5.trans e6
    refine q_when (et_or (et_test (ev_op (isi0 E6 rfl (kTD d1)) (isi1 E6 rfl (kTD d2)) (rv_ne rfl))) fun _ => et_test (ev_op (isi0 E6 rfl (kLD d1)) (isi1 E6 rfl (kLD d2)) (rv_ne rfl))) (fun hb H7 e7 => ?_) fun hb H7 e7 => ?_
    · refine s_ret ev_c fun H8 e8 => ?_
      have hs : sameD d1 d2 = false := by
        cases d1 <;> cases d2 <;> first | rfl | exact nomatch hb | exact (nn rfl).elim | exact nomatch nb | exact nomatch nI | exact nomatch nS
      rw [hs] at q
      exact q H8 ((E6.trans e7).trans e8)
    have E7 := E6.trans e7
    have core : ∃ (a1 b1 : Addr) (us ws : List V) (ds es : List D), a = .ref a1 ∧ b = .ref b1 ∧ (SqL K H a1 us ∨ SqT K H a1 us) ∧ (SqL K H b1 ws ∨ SqT K H b1 ws) ∧ Reps H us ds ∧ Reps H ws es ∧ sameD d1 d2 = sameL ds es ∧ es.length ≤ 10000 ∧ WidL es ∧ heightL es < h := by
      cases r2 with
      | tup e2 rs2 =>
        cases r1 with
        | tup e1 rs1 =>
          rw [Wid] at hw
          rw [height] at hh
          exact ⟨_, _, _, _, _, _, rfl, rfl, .inr (st_of e1), .inr (st_of e2), rs1, rs2, by rw [sameD], hw.1, hw.2, by omega⟩
        | _ => exact nomatch hb
      | lst e2 rs2 =>
        cases r1 with
        | lst e1 rs1 =>
          rw [Wid] at hw
          rw [height] at hh
          exact ⟨_, _, _, _, _, _, rfl, rfl, .inl (sq_of e1), .inl (sq_of e2), rs1, rs2, by rw [sameD], hw.1, hw.2, by omega⟩
        | _ => exact nomatch hb
      | non => exact (nn rfl).elim
      | bl c => exact nomatch nb
      | int i => exact nomatch nI
      | str l => exact nomatch nS
    obtain ⟨a1, b1, us, ws, ds, es, rfl, rfl, s1, s2, rs1, rs2, hs, hn, hW, hH⟩ := core
    rw [hs] at q
    have l1 := rs1.len
    have l2 := rs2.len
    refine q_when (et_test (ev_op (ev_lenQ (ev_v rfl) (ex_q E7 s1)) (ev_lenQ (ev_v rfl) (ex_q E7 s2)) (rv_ne rfl))) (fun hb H8 e8 => ?_) fun hb H8 e8 => ?_
    · refine s_ret ev_c fun H9 e9 => ?_
      have hne : ds.length ≠ es.length := fun e => by
        rw [l1, l2, e, decide_eq_true rfl] at hb
        exact nomatch hb
      rw [sameL_len hne] at q
      exact q H9 ((E7.trans e8).trans e9)
    have E8 := E7.trans e8
    have hlen : ds.length = es.length := by
      have : decide (V.int (us.length : Int) = V.int (ws.length : Int)) = true := by simpa using hb
      have := V.int.inj (of_decide_eq_true this)
      omega
    refine q_forR1N (n := es.length) (ea_cons (ev_is (ev_lenQ (ev_v rfl) (ex_q E8 s2)) (by rw [l2])) ea_nil) (by omega) (fun i σ H' => Ex H H' ∧ (∀ (j : Nat) x y, j < i → ds[j]? = some x → es[j]? = some y → sameD x y = true) ∧ ∃ y2 y3, σ = [some (.ref a1), some (.ref b1), y2, y3]) (fun H9 e9 => ⟨E8.trans e9, fun j x y hj => (Nat.not_lt_zero _ hj).elim, none, none, rfl⟩) ?_ ?_
    · rintro i σ H' hi ⟨e, hsm, y2, y3, rfl⟩
      obtain ⟨y, gy⟩ : ∃ y, es[i]? = some y := ⟨_, List.getElem?_eq_getElem hi⟩
      obtain ⟨x, gx⟩ : ∃ x, ds[i]? = some x := ⟨_, List.getElem?_eq_getElem (by omega)⟩
      obtain ⟨v2, hv2, rv2⟩ := rs2.get gy
      obtain ⟨v1, hv1, rv1⟩ := rs1.get gx
      have gh := heightL_get gy
      refine s_when (b := !sameD x y) (et_not (et_B (ev_cal (ea_cons (ev_op (ev_v rfl) (ev_v rfl) (rv_ixQ (ex_q e s1) hv1)) (ea_cons (ev_op (ev_v rfl) (ev_v rfl) (rv_ixQ (ex_q e s2) hv2)) ea_nil)) fun H9 e9 => ⟨v1, v2, x, y, rfl, rv1.mono (e.trans e9), rv2.mono (e.trans e9), WidL_get hW gy, by omega, rfl⟩))) (fun hb H9 e9 => ?_) fun hb H9 e9 => ?_
      · have hf : sameD x y = false := by simpa using hb
        rw [sameL_no gx gy hf] at q
        exact s_ret ev_c fun H10 e10 => q H10 ((e.trans e9).trans e10)
      · have ht : sameD x y = true := by simpa using hb
        refine ⟨e.trans e9, fun j x' y' hj h1 h2 => ?_, _, _, rfl⟩
        by_cases hji : j < i
        · exact hsm j x' y' hji h1 h2
        · have : j = i := by omega
          subst this
          rw [gx] at h1
          rw [gy] at h2
          cases h1
          cases h2
          exact ht
    · rintro σ H' ⟨e, hsm, y2, y3, rfl⟩
      rw [sameL_yes hlen fun i x y h1 h2 => hsm i x y (List.getElem?_eq_some_iff.mp h2).1 h1 h2] at q
      exact s_ret ev_c fun H9 e9 => q H9 (e.trans e9)
theorem cal_same {f : Addr} {fd : FuncData} {k : Nat} (F : Fun K "_law_same" "_law_same" s_law_same f fd) (hb : Binds K fd ["actual", "due"] []) (hk : PySem.W.keepIn K (.ref f) = true) (hm : mg "_law_same" = some (.ref f)) (N : Nb mg) : ∀ h, Cal P w K mg base (k + h) "_law_same" ["actual", "due"] (spV (ok_same h))
  | 0 => ⟨f, fd, ⟨fun vs H Q E h => by obtain ⟨_, ⟨_, _, _, _, _, _, _, _, h, _⟩, _⟩ := h; exact (Nat.not_lt_zero _ h).elim, fun A outer s H args us vs Q E _ _ _ _ h => by obtain ⟨_, ⟨_, _, _, _, _, _, _, _, h, _⟩, _⟩ := h; exact (Nat.not_lt_zero _ h).elim⟩, hb, hk, hm⟩
  | h + 1 => ⟨f, fd, fn_same F N (cal_same F hb hk hm N h), hb, hk, hm⟩
end
end K01

set_option Elab.async false
set_option linter.all false
set_option maxRecDepth 100000
set_option maxHeartbeats 4000000
namespace K01
open PySem PySem.Spec PyProof.Rows L2 Evl My
def picks : List D := [.tup [.int 0, .str [101, 51, 98, 48, 99, 52, 52, 50, 57, 56, 102, 99, 49, 99, 49, 52, 57, 97, 102, 98, 102, 52, 99, 56, 57, 57, 54, 102, 98, 57, 50, 52, 50, 55, 97, 101, 52, 49, 101, 52, 54, 52, 57, 98, 57, 51, 52, 99, 97, 52, 57, 53, 57, 57, 49, 98, 55, 56, 53, 50, 98, 56, 53, 53]], .tup [.int 1, .str [48, 56, 52, 102, 101, 100, 48, 56, 98, 57, 55, 56, 97, 102, 52, 100, 55, 100, 49, 57, 54, 97, 55, 52, 52, 54, 97, 56, 54, 98, 53, 56, 48, 48, 57, 101, 54, 51, 54, 98, 54, 49, 49, 100, 98, 49, 54, 50, 49, 49, 98, 54, 53, 97, 57, 97, 97, 100, 102, 102, 50, 57, 99, 53]], .tup [.int 55, .str [101, 55, 51, 49, 51, 100, 51, 51, 51, 99, 50, 55, 50, 101, 54, 51, 57, 102, 55, 57, 48, 57, 55, 56, 50, 56, 51, 102, 57, 101, 98, 51, 57, 50, 101, 56, 52, 51, 100, 48, 102, 50, 57, 98, 55, 48, 49, 54, 56, 50, 56, 98, 98, 49, 100, 97, 97, 52, 97, 97, 99, 55, 48, 98]], .tup [.int 56, .str [52, 51, 50, 52, 100, 54, 53, 102, 51, 99, 49, 48, 51, 53, 54, 55, 102, 53, 53, 56, 57, 99, 55, 49, 48, 98, 99, 48, 56, 102, 56, 53, 50, 51, 102, 57, 50, 57, 97, 57, 50, 55, 50, 101, 51, 97, 102, 51, 54, 102, 99, 57, 54, 56, 101, 53, 50, 97, 98, 99, 54, 99, 50, 55]], .tup [.int 63, .str [56, 49, 99, 56, 48, 50, 52, 50, 49, 51, 50, 102, 50, 51, 48, 99, 51, 98, 100, 52, 49, 98, 51, 101, 54, 51, 98, 98, 99, 102, 102, 49, 54, 49, 48, 55, 51, 51, 57, 53, 52, 57, 50, 49, 52, 97, 57, 57, 54, 49, 52, 102, 102, 50, 54, 54, 54, 52, 54, 50, 53, 48, 53, 53]], .tup [.int 64, .str [51, 57, 101, 51, 100, 55, 98, 54, 98, 53, 100, 48, 55, 53, 100, 51, 55, 100, 48, 53, 51, 97, 100, 56, 57, 98, 50, 52, 98, 52, 49, 98, 101, 102, 52, 102, 51, 99, 50, 57, 55, 54, 48, 99, 56, 52, 52, 52, 55, 99, 97, 98, 51, 102, 51, 98, 101, 49, 56, 56, 50, 50, 52, 49]], .tup [.int 65, .str [97, 97, 99, 99, 97, 54, 102, 102, 55, 52, 102, 100, 98, 98, 50, 57, 54, 100, 49, 54, 53, 97, 52, 53, 99, 101, 99, 102, 97, 48, 52, 101, 53, 49, 50, 55, 98, 99, 48, 48, 56, 55, 55, 48, 102, 98, 98, 100, 100, 52, 56, 48, 48, 54, 102, 50, 100, 50, 102, 97, 101, 57, 53, 101]], .tup [.int 119, .str [57, 99, 101, 55, 51, 54, 56, 101, 52, 100, 97, 102, 51, 50, 51, 52, 49, 54, 51, 49, 98, 52, 57, 50, 101, 56, 48, 51, 53, 57, 100, 99, 57, 102, 53, 57, 52, 98, 52, 56, 52, 53, 51, 99, 100, 48, 100, 100, 53, 98, 102, 48, 98, 49, 57, 50, 55, 57, 99, 99, 49, 55, 55, 101]], .tup [.int 120, .str [55, 56, 51, 54, 98, 55, 56, 55, 55, 53, 55, 101, 57, 53, 101, 53, 56, 98, 51, 99, 97, 53, 97, 101, 99, 57, 48, 98, 49, 98, 48, 48, 52, 101, 56, 100, 101, 98, 97, 49, 101, 53, 48, 101, 57, 54, 55, 53, 97, 102, 57, 99, 97, 98, 102, 49, 97, 49, 51, 97, 48, 52, 98, 53]], .tup [.int 128, .str [100, 50, 55, 52, 50, 102, 49, 102, 52, 97, 99, 54, 98, 98, 55, 99, 97, 50, 98, 50, 51, 57, 101, 101, 49, 56, 52, 48, 50, 98, 97, 56, 98, 51, 102, 57, 102, 56, 101, 54, 53, 50, 100, 50, 97, 55, 50, 57, 55, 51, 99, 50, 98, 57, 98, 97, 49, 49, 99, 48, 56, 99, 102, 54]], .tup [.int 200, .str [50, 99, 55, 101, 49, 56, 99, 57, 52, 50, 101, 102, 48, 54, 53, 98, 53, 50, 54, 97, 50, 100, 52, 101, 53, 53, 52, 54, 50, 56, 51, 55, 52, 57, 99, 100, 51, 100, 100, 102, 98, 53, 49, 100, 56, 102, 99, 55, 49, 102, 52, 50, 55, 49, 55, 51, 54, 51, 54, 56, 53, 102, 52, 54]]]
def picksN : List (Nat × List Nat) := [(0, [101, 51, 98, 48, 99, 52, 52, 50, 57, 56, 102, 99, 49, 99, 49, 52, 57, 97, 102, 98, 102, 52, 99, 56, 57, 57, 54, 102, 98, 57, 50, 52, 50, 55, 97, 101, 52, 49, 101, 52, 54, 52, 57, 98, 57, 51, 52, 99, 97, 52, 57, 53, 57, 57, 49, 98, 55, 56, 53, 50, 98, 56, 53, 53]), (1, [48, 56, 52, 102, 101, 100, 48, 56, 98, 57, 55, 56, 97, 102, 52, 100, 55, 100, 49, 57, 54, 97, 55, 52, 52, 54, 97, 56, 54, 98, 53, 56, 48, 48, 57, 101, 54, 51, 54, 98, 54, 49, 49, 100, 98, 49, 54, 50, 49, 49, 98, 54, 53, 97, 57, 97, 97, 100, 102, 102, 50, 57, 99, 53]), (55, [101, 55, 51, 49, 51, 100, 51, 51, 51, 99, 50, 55, 50, 101, 54, 51, 57, 102, 55, 57, 48, 57, 55, 56, 50, 56, 51, 102, 57, 101, 98, 51, 57, 50, 101, 56, 52, 51, 100, 48, 102, 50, 57, 98, 55, 48, 49, 54, 56, 50, 56, 98, 98, 49, 100, 97, 97, 52, 97, 97, 99, 55, 48, 98]), (56, [52, 51, 50, 52, 100, 54, 53, 102, 51, 99, 49, 48, 51, 53, 54, 55, 102, 53, 53, 56, 57, 99, 55, 49, 48, 98, 99, 48, 56, 102, 56, 53, 50, 51, 102, 57, 50, 57, 97, 57, 50, 55, 50, 101, 51, 97, 102, 51, 54, 102, 99, 57, 54, 56, 101, 53, 50, 97, 98, 99, 54, 99, 50, 55]), (63, [56, 49, 99, 56, 48, 50, 52, 50, 49, 51, 50, 102, 50, 51, 48, 99, 51, 98, 100, 52, 49, 98, 51, 101, 54, 51, 98, 98, 99, 102, 102, 49, 54, 49, 48, 55, 51, 51, 57, 53, 52, 57, 50, 49, 52, 97, 57, 57, 54, 49, 52, 102, 102, 50, 54, 54, 54, 52, 54, 50, 53, 48, 53, 53]), (64, [51, 57, 101, 51, 100, 55, 98, 54, 98, 53, 100, 48, 55, 53, 100, 51, 55, 100, 48, 53, 51, 97, 100, 56, 57, 98, 50, 52, 98, 52, 49, 98, 101, 102, 52, 102, 51, 99, 50, 57, 55, 54, 48, 99, 56, 52, 52, 52, 55, 99, 97, 98, 51, 102, 51, 98, 101, 49, 56, 56, 50, 50, 52, 49]), (65, [97, 97, 99, 99, 97, 54, 102, 102, 55, 52, 102, 100, 98, 98, 50, 57, 54, 100, 49, 54, 53, 97, 52, 53, 99, 101, 99, 102, 97, 48, 52, 101, 53, 49, 50, 55, 98, 99, 48, 48, 56, 55, 55, 48, 102, 98, 98, 100, 100, 52, 56, 48, 48, 54, 102, 50, 100, 50, 102, 97, 101, 57, 53, 101]), (119, [57, 99, 101, 55, 51, 54, 56, 101, 52, 100, 97, 102, 51, 50, 51, 52, 49, 54, 51, 49, 98, 52, 57, 50, 101, 56, 48, 51, 53, 57, 100, 99, 57, 102, 53, 57, 52, 98, 52, 56, 52, 53, 51, 99, 100, 48, 100, 100, 53, 98, 102, 48, 98, 49, 57, 50, 55, 57, 99, 99, 49, 55, 55, 101]), (120, [55, 56, 51, 54, 98, 55, 56, 55, 55, 53, 55, 101, 57, 53, 101, 53, 56, 98, 51, 99, 97, 53, 97, 101, 99, 57, 48, 98, 49, 98, 48, 48, 52, 101, 56, 100, 101, 98, 97, 49, 101, 53, 48, 101, 57, 54, 55, 53, 97, 102, 57, 99, 97, 98, 102, 49, 97, 49, 51, 97, 48, 52, 98, 53]), (128, [100, 50, 55, 52, 50, 102, 49, 102, 52, 97, 99, 54, 98, 98, 55, 99, 97, 50, 98, 50, 51, 57, 101, 101, 49, 56, 52, 48, 50, 98, 97, 56, 98, 51, 102, 57, 102, 56, 101, 54, 53, 50, 100, 50, 97, 55, 50, 57, 55, 51, 99, 50, 98, 57, 98, 97, 49, 49, 99, 48, 56, 99, 102, 54]), (200, [50, 99, 55, 101, 49, 56, 99, 57, 52, 50, 101, 102, 48, 54, 53, 98, 53, 50, 54, 97, 50, 100, 52, 101, 53, 53, 52, 54, 50, 56, 51, 55, 52, 57, 99, 100, 51, 100, 100, 102, 98, 53, 49, 100, 56, 102, 99, 55, 49, 102, 52, 50, 55, 49, 55, 51, 54, 51, 54, 56, 53, 102, 52, 54])]
def words : List (D × D) := [(.str [97], .bl true), (.str [97, 49], .bl true), (.str [49, 97], .bl false), (.str [], .bl false), (.str [65], .bl false), (.str [97, 95, 98], .bl false), (.str [97, 98, 99, 100, 101, 102, 103, 104, 105, 106, 107, 108], .bl true), (.str [97, 98, 99, 100, 101, 102, 103, 104, 105, 106, 107, 108, 109], .bl false), (.non, .bl false), (.int 3, .bl false)]
def segs : List (D × D) := [(.str [97], .bl true), (.str [46, 46], .bl false), (.str [46], .bl false), (.str [46, 46, 46], .bl true), (.str [97, 32, 98], .bl false), (.str [97, 47, 98], .bl false), (.str [65], .bl false), (.str [], .bl false), (.str [45, 95, 46, 57], .bl true), (.str [120, 120, 120, 120, 120, 120, 120, 120, 120, 120, 120, 120, 120, 120, 120, 120, 120, 120, 120, 120], .bl true), (.str [120, 120, 120, 120, 120, 120, 120, 120, 120, 120, 120, 120, 120, 120, 120, 120, 120, 120, 120, 120, 120], .bl false)]
def paths : List (D × D) := [(.str [97, 47, 98], .bl true), (.str [97, 47, 47, 98], .bl false), (.str [], .bl false), (.str [47, 97], .bl false), (.str [97, 47], .bl false), (.str [97, 47, 46, 46], .bl false), (.str [98], .bl true)]

def seqN (n : Nat) : List Nat := (List.range n).map fun k => (7 * k + 3) % 256
theorem picks_are : picks = picksN.map fun r => D.tup [.int (r.1 : Int), .str r.2] := rfl
theorem picks_n : ∀ r ∈ picksN, r.1 ≤ 200 := by decide +kernel
theorem picks_sha : ∀ r ∈ picksN, shaN (seqN r.1) = r.2 := by decide +kernel
def app (g : List Nat → Bool) : D → Bool
  | .str l => g l
  | _ => false
def shortB : D → Bool
  | .str l => decide (l.length ≤ 1000)
  | _ => true
theorem tst_app {d : D} {g : List Nat → Bool} (h : shortB d = true) : Tst d g (.bl (app g d)) := by
  cases d with
  | str l => exact .inl ⟨l, rfl, of_decide_eq_true h, rfl⟩
  | _ => exact .inr ⟨rfl, rfl⟩
def rowB (g : List Nat → Bool) (r : D × D) : Bool := shortB r.1 && sameD (.bl (app g r.1)) r.2
theorem words_ok : words.all (rowB wordP) = true := by decide +kernel
theorem segs_ok : segs.all (rowB segP) = true := by decide +kernel
def pathB (r : D × D) : Bool := match r.1 with
  | .str l => decide (l.length ≤ 1000) && ((Txt.split (tx l) (tx [47])).all fun s => decide (s.length ≤ 1000)) && decide ((Txt.split (tx l) (tx [47])).length ≤ 2000) && sameD (.bl (pathP l)) r.2
  | _ => false
theorem paths_ok : paths.all pathB = true := by decide +kernel
theorem same_bl {b : Bool} {d : D} (h : sameD (.bl b) d = true) : d = .bl b := by
  cases d with
  | bl c =>
    rw [sameD] at h
    rw [of_decide_eq_true h]
  | _ => exact nomatch h
theorem all_at {α : Type} {l : List α} {f : α → Bool} {i : Nat} {x : α} (h : l.all f = true) (g : l[i]? = some x) : f x = true := List.all_eq_true.mp h x (List.mem_of_getElem? g)
theorem seqN_len (n : Nat) : (seqN n).length = n := by unfold seqN; rw [List.length_map, List.length_range]
theorem seqN_oct (n : Nat) : Oct (seqN n) := fun x hx => by
  obtain ⟨k, _, rfl⟩ := List.mem_map.mp hx
  exact Nat.mod_lt _ (by decide)
theorem given_seq (n : Nat) : given ((n : Nat) : Int).toNat (fun _ => true) (fun k => V.int (((7 * k + 3) % 256 : Nat) : Int)) = nats (seqN n) := by
  rw [Int.toNat_natCast, given_all]
  unfold nats seqN
  rw [List.map_map]
  rfl
theorem hexL_in (w : Nat) : ∀ k, ∀ c ∈ hexL w k, c ∈ hexd
  | 0, c, h => by simp [hexL] at h
  | k + 1, c, h => by
    rw [hexL, List.mem_cons] at h
    rcases h with rfl | h
    · exact getD_mem (Nat.mod_lt _ (by decide))
    · exact hexL_in w k c h
theorem shaN_in {data : List Nat} {c : Nat} (h : c ∈ shaN data) : c ∈ hexd := by
  unfold shaN hexR at h
  obtain ⟨w, _, hc⟩ := List.mem_flatMap.mp h
  exact hexL_in w 8 c hc
theorem name_sha (data : List Nat) : nameP ((shaN data).take 20) = true := by
  have hl : ((shaN data).take 20).length = 20 := by rw [List.length_take, shaN_len]; rfl
  unfold nameP madeP
  rw [hl, decide_eq_true rfl, Bool.and_true, decide_eq_true (show 1 ≤ 20 by decide), decide_eq_true (show 20 ≤ 20 by decide)]
  show List.all _ _ = true
  rw [List.all_eq_true]
  exact fun c hc => decide_eq_true (shaN_in (List.mem_of_mem_take hc))
theorem picks_one {d : D} (h : d ∈ picks) : ∃ n l, d = .tup [.int ((n : Nat) : Int), .str l] ∧ n ≤ 200 ∧ shaN (seqN n) = l := by
  rw [picks_are] at h
  obtain ⟨r, hr, rfl⟩ := List.mem_map.mp h
  exact ⟨r.1, r.2, rfl, picks_n r hr, picks_sha r hr⟩
end K01

set_option Elab.async false
set_option linter.all false
set_option maxRecDepth 100000
set_option maxHeartbeats 4000000
namespace K01
open PySem PySem.Spec PyProof.Rows L2 Evl My
section
variable {P : Program} {w : World} {K : PySem.W.Frag} {mg : Str → Option Value} {base : Heap}
theorem r_asgG {te : TE} {g : TG} {tz : TS} {D0 : Ends} {σ : L2.St} {H : Hp} (h : te σ H fun v H1 => g v σ H1 fun σ' H' => tz D0 σ' H') : tSeq (tAsg te g) tz D0 σ H := h
abbrev s_law : Stmt := topS 47
theorem sc_law : FnScope ["script", "pool", "many", "digest", "k", "value", "data", "word", "good", "segment", "path"] ["script"] (defScope s_law) := ⟨rfl, rfl, rfl, by decide +kernel, rfl, by decide +kernel, by decide +kernel⟩
/- 0 script, 1 pool, 2 many, 3 digest, 4 k, 5 value, 6 data, 7 word, 8 good, 9 segment, 10 path -/
def sp_law (K : PySem.W.Frag) : Sp := fun vs H Q _ => ∃ (a : Addr) (ns : List Int), vs = [.ref a] ∧ SqL K H a (ns.map V.int) ∧ ∀ H', Q (.bl true) H'
theorem fn_law {f : Addr} {fd : FuncData} {k : Nat} (F : Fun K "law" "law" s_law f fd) (N : Nb mg) (C_law_pool : Cal P w K mg base k "_law_pool" ["script"] (spL (ok_pool_ K))) (C_law_pick : Cal P w K mg base k "_law_pick" ["pool", "options"] (sp_pick K))
    (C_sha : Cal P w K mg base k "sha" ["data"] (spV ok_sha)) (C_law_same : Cal P w K mg base k "_law_same" ["actual", "due"] (spV (ok_same 1))) (C_law_value : Cal P w K mg base k "_law_value" ["pool", "deep"] (sp_value K 3)) (C_told : Cal P w K mg base k "told" ["value"] (spL ok_told))
    (C_law_sha : Cal P w K mg base k "_law_sha" ["data"] (spV (ok_lsha_ K))) (C_name_of : Cal P w K mg base k "name_of" ["value"] (spV ok_name_of)) (C_is_name : Cal P w K mg base k "is_name" ["value"] (spV (ok_is nameP)))
    (C_is_word : Cal P w K mg base k "is_word" ["value"] (spV (ok_is wordP))) (C_is_segment : Cal P w K mg base k "is_segment" ["value"] (spV (ok_is segP))) (C_is_path : Cal P w K mg base k "is_path" ["value"] (spV ok_is_path)) :
    FnOk P w K mg base CX0 (k + 1) f fd ["script"] (sp_law K) := by
  refine F.ok sc_law (fun vs H Q E h => ?_) (fun cdv A outer s H vs Q E hr h => ?_)
  · obtain ⟨_, _, rfl, _⟩ := h
    rfl
  · obtain ⟨a, ns, rfl, hS, q⟩ := h
    refine ⟨_, (pss_cons (ps_set (i := 1) sc_law.nd rfl (Or.inl rfl) (pe_cal C_law_pool hr (pa_cons (pv 0) pa_nil)))
      (pss_cons (ps_asg (pe_cal C_law_pick hr (pa_cons (pv 1) (pa_cons (pe_lst (pa_cons (pe_tup (pa_cons pe_int (pa_cons pe_str pa_nil))) (pa_cons (pe_tup (pa_cons pe_int (pa_cons pe_str pa_nil))) (pa_cons (pe_tup (pa_cons pe_int (pa_cons pe_str pa_nil))) (pa_cons (pe_tup (pa_cons pe_int (pa_cons pe_str pa_nil))) (pa_cons (pe_tup (pa_cons pe_int (pa_cons pe_str pa_nil))) (pa_cons (pe_tup (pa_cons pe_int (pa_cons pe_str pa_nil))) (pa_cons (pe_tup (pa_cons pe_int (pa_cons pe_str pa_nil))) (pa_cons (pe_tup (pa_cons pe_int (pa_cons pe_str pa_nil))) (pa_cons (pe_tup (pa_cons pe_int (pa_cons pe_str pa_nil))) (pa_cons (pe_tup (pa_cons pe_int (pa_cons pe_str pa_nil))) (pa_cons (pe_tup (pa_cons pe_int (pa_cons pe_str pa_nil))) pa_nil)))))))))))) pa_nil))) (pg_tup rfl (pgs_cons (pg_name (i := 2) sc_law.nd rfl (Or.inl rfl)) (pgs_cons (pg_name (i := 3) sc_law.nd rfl (Or.inl rfl)) pgs_nil))))
      (pss_cons (ps_if (pt_not (pt_val (pe_cal C_law_same hr (pa_cons (pe_cal C_sha hr (pa_cons (pe_lc (own := [("k", 4)]) (by rfl) sc_law.nd (pi_range1 rfl N.range (pa_cons (pv 2) pa_nil)) (blkOk_by (own := [("k", 4)]) (N := ["script", "pool", "many", "digest", "k", "value", "data", "word", "good", "segment", "path"]) (sc := defScope s_law) (by decide +kernel)) (fun _ _ _ _ _ => (pg_name (i := 4) sc_law.nd rfl (Or.inl rfl))) (fun _ _ _ _ _ => pts_nil) (fun _ _ _ _ _ => (pe_callTy call_int1 (by rfl) N.int PyProof.Rows.boot_int (pa_cons (pe_op op_mod (pe_op op_add (pe_op op_mul pe_int (pv 4)) pe_int) pe_int) pa_nil)))) pa_nil)) (pa_cons (pv 3) pa_nil))))) (pss_one (ps_ret pe_bl)) pss_nil)
      (pss_cons (ps_set (i := 5) sc_law.nd rfl (Or.inl rfl) (pe_cal C_law_value hr (pa_cons (pv 1) (pa_cons pe_int pa_nil))))
      (pss_cons (ps_set (i := 6) sc_law.nd rfl (Or.inl rfl) (pe_cal C_told hr (pa_cons (pv 5) pa_nil)))
      (pss_cons (ps_if (PW.pt (pw_and (pt_not (pt_val (pe_cal C_law_same hr (pa_cons (pe_cal C_sha hr (pa_cons (pe_callTy call_list_of (by rfl) N.list PyProof.Rows.boot_list (pa_cons (pv 6) pa_nil)) pa_nil)) (pa_cons (pe_cal C_law_sha hr (pa_cons (pe_slice sl_list (pv 6) po_none (po_some pe_int)) pa_nil)) pa_nil))))) (pw_and1 (pt_cmpR op_le (pe_callB call_len_seq (by rfl) N.len PySem.boot_len (pa_cons (pv 6) pa_nil)) pe_int (nomark _))))) (pss_one (ps_ret pe_bl)) pss_nil)
      (pss_cons (ps_if (PW.pt (pw_or (pt_not (pt_val (pe_cal C_law_same hr (pa_cons (pe_cal C_name_of hr (pa_cons (pv 5) pa_nil)) (pa_cons (pe_slice sl_str (pe_cal C_sha hr (pa_cons (pe_callTy call_list_of (by rfl) N.list PyProof.Rows.boot_list (pa_cons (pv 6) pa_nil)) pa_nil)) po_none (po_some pe_int)) pa_nil))))) (pw_or1 (pt_cmpR op_notBl (pe_cal C_is_name hr (pa_cons (pe_cal C_name_of hr (pa_cons (pv 5) pa_nil)) pa_nil)) pe_bl (nomark _))))) (pss_one (ps_ret pe_bl)) pss_nil)
      (pss_cons (ps_for PassesOwn.never rfl (pi_list (pe_lst (pa_cons (pe_tup (pa_cons pe_str (pa_cons pe_bl pa_nil))) (pa_cons (pe_tup (pa_cons pe_str (pa_cons pe_bl pa_nil))) (pa_cons (pe_tup (pa_cons pe_str (pa_cons pe_bl pa_nil))) (pa_cons (pe_tup (pa_cons pe_str (pa_cons pe_bl pa_nil))) (pa_cons (pe_tup (pa_cons pe_str (pa_cons pe_bl pa_nil))) (pa_cons (pe_tup (pa_cons pe_str (pa_cons pe_bl pa_nil))) (pa_cons (pe_tup (pa_cons pe_str (pa_cons pe_bl pa_nil))) (pa_cons (pe_tup (pa_cons pe_str (pa_cons pe_bl pa_nil))) (pa_cons (pe_tup (pa_cons pe_non (pa_cons pe_bl pa_nil))) (pa_cons (pe_tup (pa_cons pe_int (pa_cons pe_bl pa_nil))) pa_nil)))))))))))) (pg_tup rfl (pgs_cons (pg_name (i := 7) sc_law.nd rfl (Or.inl rfl)) (pgs_cons (pg_name (i := 8) sc_law.nd rfl (Or.inl rfl)) pgs_nil))) (pss_one (ps_if (pt_not (pt_val (pe_cal C_law_same hr (pa_cons (pe_cal C_is_word hr (pa_cons (pv 7) pa_nil)) (pa_cons (pv 8) pa_nil))))) (pss_one (ps_ret pe_bl)) pss_nil)))
      (pss_cons (ps_for PassesOwn.never rfl (pi_list (pe_lst (pa_cons (pe_tup (pa_cons pe_str (pa_cons pe_bl pa_nil))) (pa_cons (pe_tup (pa_cons pe_str (pa_cons pe_bl pa_nil))) (pa_cons (pe_tup (pa_cons pe_str (pa_cons pe_bl pa_nil))) (pa_cons (pe_tup (pa_cons pe_str (pa_cons pe_bl pa_nil))) (pa_cons (pe_tup (pa_cons pe_str (pa_cons pe_bl pa_nil))) (pa_cons (pe_tup (pa_cons pe_str (pa_cons pe_bl pa_nil))) (pa_cons (pe_tup (pa_cons pe_str (pa_cons pe_bl pa_nil))) (pa_cons (pe_tup (pa_cons pe_str (pa_cons pe_bl pa_nil))) (pa_cons (pe_tup (pa_cons pe_str (pa_cons pe_bl pa_nil))) (pa_cons (pe_tup (pa_cons (pe_op op_mulS pe_str pe_int) (pa_cons pe_bl pa_nil))) (pa_cons (pe_tup (pa_cons (pe_op op_mulS pe_str pe_int) (pa_cons pe_bl pa_nil))) pa_nil))))))))))))) (pg_tup rfl (pgs_cons (pg_name (i := 9) sc_law.nd rfl (Or.inl rfl)) (pgs_cons (pg_name (i := 8) sc_law.nd rfl (Or.inl rfl)) pgs_nil))) (pss_one (ps_if (pt_not (pt_val (pe_cal C_law_same hr (pa_cons (pe_cal C_is_segment hr (pa_cons (pv 9) pa_nil)) (pa_cons (pv 8) pa_nil))))) (pss_one (ps_ret pe_bl)) pss_nil)))
      (pss_cons (ps_for PassesOwn.never rfl (pi_list (pe_lst (pa_cons (pe_tup (pa_cons pe_str (pa_cons pe_bl pa_nil))) (pa_cons (pe_tup (pa_cons pe_str (pa_cons pe_bl pa_nil))) (pa_cons (pe_tup (pa_cons pe_str (pa_cons pe_bl pa_nil))) (pa_cons (pe_tup (pa_cons pe_str (pa_cons pe_bl pa_nil))) (pa_cons (pe_tup (pa_cons pe_str (pa_cons pe_bl pa_nil))) (pa_cons (pe_tup (pa_cons pe_str (pa_cons pe_bl pa_nil))) (pa_cons (pe_tup (pa_cons pe_str (pa_cons pe_bl pa_nil))) pa_nil))))))))) (pg_tup rfl (pgs_cons (pg_name (i := 10) sc_law.nd rfl (Or.inl rfl)) (pgs_cons (pg_name (i := 8) sc_law.nd rfl (Or.inl rfl)) pgs_nil))) (pss_one (ps_if (pt_not (pt_val (pe_cal C_law_same hr (pa_cons (pe_cal C_is_path hr (pa_cons (pv 10) pa_nil)) (pa_cons (pv 8) pa_nil))))) (pss_one (ps_ret pe_bl)) pss_nil)))
      (pss_one (ps_ret (pe_and (pe_cmpR op_isBA (pe_cal C_is_name hr (pa_cons pe_str pa_nil)) pe_bl (nomark _)) (pe_and (pe_cmpR op_isBA (pe_cal C_is_name hr (pa_cons (pe_op op_mulS pe_str pe_int) pa_nil)) pe_bl (nomark _)) (pe_one (pe_cmpR op_isBA (pe_cal C_is_name hr (pa_cons (pe_op op_mulS pe_str pe_int) pa_nil)) pe_bl (nomark _))))))))))))))))), ?_⟩
    refine q_asgL (el_cal (ea_cons (ev_v rfl) ea_nil) fun H1 e1 => ⟨a, ns, rfl, ex_l e1 hS, rfl⟩) fun p H1 hp e1 h1 => ?_
    have P1 : Pool K H1 p a ns := ⟨_, 0, h1, ex_l e1 hS⟩
    refine r_asgG (r_pickD (ds := picks) P1 (ev_v rfl) (ed_lst (by unfold picks; repeat' (first | exact er_nil | refine er_cons ?_ ?_ | refine ed_tup ?_ (by decide) | refine ed_lst ?_ (by decide) | exact evd_v ev_c (.bl _) | exact evd_v ev_c .non | exact evd_v ev_c (.int _) | exact evd_v (ev_cs _ (by decide +kernel)) (.str _) | exact evd_v (ev_op (ev_cs [120] (by decide +kernel)) ev_c (rv_mulSn (by unfold MulOk; decide) (by decide +kernel))) (.str _))) (by decide)) (fun z => nomatch z) (by decide) (by decide +kernel) (by decide +kernel) fun v d H2 hd rd g2 => ?_)
    obtain ⟨n, l, rfl, hn, hsha⟩ := picks_one hd
    cases rd with
    | tup ht rr =>
    cases rr with
    | cons r1 rr =>
    cases r1
    cases rr with
    | cons r2 rr =>
    cases r2
    cases rr
    refine ⟨_, _, rfl, st_of ht, rfl, _, _, rfl, _, _, rfl, rfl, ?_⟩
    refine q_when (b := false) (et_not (a := true) (et_B (ev_cal (ea_cons (ev_calP (z := .str (tx (shaN (seqN n)))) (eap_l (xs := nats (seqN n)) (by
        rw [← given_seq]
        exact el_lcR1 (fun _ => true) _ (ea_cons (ev_v rfl) ea_nil) (by omega) (fun _ => rfl) (fun i H3 e3 hi => et_yes) (fun i H3 e3 hi _ => ev_int (ev_op (ev_op (ev_op (ev_cn 7) (ev_v rfl) (rv_mulN (.inl (by decide)))) (ev_cn 3) rv_addN) (ev_cn 256) (rv_modN (by decide))))) eap_nil) fun vs H3 e3 hv => ?_) (ea_cons (ev_v rfl) ea_nil)) fun H3 e3 => ⟨_, _, .str (shaN (seqN n)), .str l, rfl, .str _, .str _, trivial, Nat.zero_lt_one, ?_⟩))) (fun z => nomatch z) fun _ H3 e3 => ?_
    · obtain ⟨b, _, rfl, hb, rfl⟩ := hv
      exact ⟨b, seqN n, rfl, hb, by rw [seqN_len]; omega, seqN_oct n, rfl⟩
    · rw [hsha, sameD_refl]
    have g3 := g2.exR e3
    refine r_asg (r_call (r_cons (r_var (v := .ref p) rfl (r_cons (r_c (r_nil ?_))))))
    refine ⟨p, a, ns, 2, rfl, g3.2, by decide, by decide, fun v d H4 rv pv hv ov g4 => ?_⟩
    have ov' : (octs d).length ≤ 3200 := ov
    have hoct := octs_oct d pv
    refine q_asgL (el_cal (ea_cons (ev_v rfl) ea_nil) fun H5 e5 => ⟨v, d, rfl, rv.mono e5, pv, by omega, by omega, rfl⟩) fun pd H5 hpd e5 h5 => ?_
    have hsl := shaN_len (octs d)
    have hnm := name_sha (octs d)
    have hse : (octs d).length ≤ 54 → shaN (octs d) = sha1 (octs d) := sha_eq
    have hname : ∀ {σ : L2.St} {H' : Hp}, Ex H5 H' → σ[5]? = some (some v) → Ev (tCall (spV ok_name_of) [] E0 (tCons (tVar 5) tNil)) σ H' (.str (tx ((shaN (octs d)).take 20))) := fun e' hv' => ev_cal (ea_cons (ev_v hv') ea_nil) fun H6 e6 => ⟨v, d, rfl, rv.mono ((e5.trans e').trans e6), pv, by omega, by omega, rfl⟩
    have hsha : ∀ {σ : L2.St} {H' : Hp}, Ex H5 H' → σ[6]? = some (some (.ref pd)) → Ev (tCall (spV ok_sha) [] E0 (tCons (tCB (rListS K) (tCons (tVar 6) tNil)) tNil)) σ H' (.str (tx (shaN (octs d)))) := fun e' hv' => ev_calP (eap_l (el_list (ev_v hv') (sq_of (e' pd _ h5))) eap_nil) fun vs H6 e6 hv => by
      obtain ⟨b, _, rfl, hb, rfl⟩ := hv
      exact ⟨b, octs d, rfl, hb, by omega, hoct, rfl⟩
    have hrd := rv
    generalize octs d = od at *
    generalize shaN od = S at *
    refine q_when (b := false) (et_is (et_and (a := !sameD (.str S) (.str (sha1 (od.take 54)))) (b := decide ((od.length : Int) ≤ ((54 : Nat) : Int))) (et_not (et_B (ev_cal (ea_cons (hsha (Ex.refl _) rfl) (ea_cons (ev_calP (z := .str (tx (sha1 (od.take 54)))) (eap_l (xs := nats (od.take 54)) (by
        rw [nats_take, ← cutV_take]
        exact el_sl (ev_v rfl) eo_none (eo_some (ev_cn 54)) (sq_of h5)) eap_nil) fun vs H6 e6 hv => ?_) ea_nil)) fun H6 e6 => ⟨_, _, .str S, .str (sha1 (od.take 54)), rfl, .str _, .str _, trivial, Nat.zero_lt_one, rfl⟩))) fun _ => et_test (ev_op (by
          have := ev_len (K := K) (σ := [some (V.ref a), some (.ref p), some (.int (n : Int)), some (.str (tx l)), none, some v, some (.ref pd), none, none, none, none]) (ta := tVar 6) (ev_v rfl) (sq_of h5)
          rw [nats_len] at this
          exact this) (ev_cn 54) rv_I0)) ?_) (fun z => nomatch z) fun _ H6 e6 => ?_
    · obtain ⟨b, _, rfl, hb, rfl⟩ := hv
      exact ⟨b, od.take 54, rfl, hb, by rw [List.length_take]; omega, fun x hx => hoct x (List.mem_of_mem_take hx), rfl⟩
    · by_cases h : od.length ≤ 54
      · rw [List.take_of_length_le h, ← hse h, sameD_refl]
        rfl
      · rw [decide_eq_false (show ¬ (od.length : Int) ≤ ((54 : Nat) : Int) by omega), Bool.and_false]
    refine q_when (b := false) (et_or (a := !true) (b := false) (et_not (et_B (ev_cal (ea_cons (hname e6 rfl) (ea_cons (ev_slS (hsha e6 rfl) eo_none (eo_some (ev_cn 20)) (by omega)) ea_nil)) fun H7 e7 => ⟨_, _, .str (S.take 20), .str (S.take 20), rfl, .str _, by rw [cutS_take]; exact .str _, trivial, Nat.zero_lt_one, by rw [sameD_refl]⟩))) fun _ =>
      et_test (ev_op (ev_cal (z := .bl true) (ea_cons (hname e6 rfl) ea_nil) fun H7 e7 => ⟨_, .str (S.take 20), rfl, .str _, .inl ⟨_, rfl, by rw [List.length_take]; omega, by rw [hnm]⟩⟩) ev_c (rv_val fun H7 e7 Q q => ⟨true, true, rfl, rfl, q⟩))) (fun z => nomatch z) fun _ H7 e7 => ?_
    have mk : ∀ (rows : List (D × D)) (g : List Nat → Bool), rows.all (rowB g) = true → ∀ (i : Nat) (r : D × D), rows[i]? = some r → ∃ b, r.2 = .bl b ∧ Tst r.1 g (.bl b) := fun rows g ha i r hr => by
      have h := all_at ha hr
      unfold rowB at h
      rw [Bool.and_eq_true] at h
      exact ⟨_, same_bl h.2, tst_app h.1⟩
    refine q_forD2 (rows := words) (ed_lst (by show EvAR _ _ _ [.tup [.str [97], .bl true], .tup [.str [97, 49], .bl true], .tup [.str [49, 97], .bl false], .tup [.str [], .bl false], .tup [.str [65], .bl false], .tup [.str [97, 95, 98], .bl false], .tup [.str [97, 98, 99, 100, 101, 102, 103, 104, 105, 106, 107, 108], .bl true], .tup [.str [97, 98, 99, 100, 101, 102, 103, 104, 105, 106, 107, 108, 109], .bl false], .tup [.non, .bl false], .tup [.int 3, .bl false]]; repeat' (first | exact er_nil | refine er_cons ?_ ?_ | refine ed_tup ?_ (by decide) | refine ed_lst ?_ (by decide) | exact evd_v ev_c (.bl _) | exact evd_v ev_c .non | exact evd_v ev_c (.int _) | exact evd_v (ev_cs _ (by decide +kernel)) (.str _) | exact evd_v (ev_op (ev_cs [120] (by decide +kernel)) ev_c (rv_mulSn (by unfold MulOk; decide) (by decide +kernel))) (.str _))) (by decide)) (fun H1 i σ H' => Ex H1 H' ∧ ∃ y1 y2, σ = [some (V.ref a), some (.ref p), some (.int (n : Int)), some (.str (tx l)), none, some v, some (.ref pd), y1, y2, none, none]) (fun H8 e8 => ⟨Ex.refl _, none, none, rfl⟩) (fun _ _ _ _ h => h.1) ?_ ?_
    · rintro H8 i r v1 v2 σ H' e8 hr rv1 rv2 ⟨e', y1, y2, rfl⟩
      obtain ⟨b, hb, ht⟩ := mk words wordP words_ok i r hr
      rw [hb] at rv2
      cases rv2
      exact s_when (b := false) (et_not (a := true) (et_B (ev_cal (ea_cons (ev_cal (ea_cons (ev_v rfl) ea_nil) fun H9 e9 => ⟨v1, r.1, rfl, rv1.mono e9, ht⟩) (ea_cons (ev_v rfl) ea_nil)) fun H9 e9 => ⟨_, _, .bl b, .bl b, rfl, .bl _, .bl _, trivial, Nat.zero_lt_one, by rw [sameD_refl]⟩))) (fun z => nomatch z) fun _ H9 e9 => ⟨e'.trans e9, _, _, rfl⟩
    rintro H8 σ H9 e8 ⟨e9, y1, y2, rfl⟩
    refine q_forD2 (rows := segs) (ed_lst (by show EvAR _ _ _ [.tup [.str [97], .bl true], .tup [.str [46, 46], .bl false], .tup [.str [46], .bl false], .tup [.str [46, 46, 46], .bl true], .tup [.str [97, 32, 98], .bl false], .tup [.str [97, 47, 98], .bl false], .tup [.str [65], .bl false], .tup [.str [], .bl false], .tup [.str [45, 95, 46, 57], .bl true], .tup [.str [120, 120, 120, 120, 120, 120, 120, 120, 120, 120, 120, 120, 120, 120, 120, 120, 120, 120, 120, 120], .bl true], .tup [.str [120, 120, 120, 120, 120, 120, 120, 120, 120, 120, 120, 120, 120, 120, 120, 120, 120, 120, 120, 120, 120], .bl false]]; repeat' (first | exact er_nil | refine er_cons ?_ ?_ | refine ed_tup ?_ (by decide) | refine ed_lst ?_ (by decide) | exact evd_v ev_c (.bl _) | exact evd_v ev_c .non | exact evd_v ev_c (.int _) | exact evd_v (ev_cs _ (by decide +kernel)) (.str _) | exact evd_v (ev_op (ev_cs [120] (by decide +kernel)) ev_c (rv_mulSn (by unfold MulOk; decide) (by decide +kernel))) (.str _))) (by decide)) (fun H1 i σ H' => Ex H1 H' ∧ ∃ y1 y2 y3, σ = [some (V.ref a), some (.ref p), some (.int (n : Int)), some (.str (tx l)), none, some v, some (.ref pd), y1, y2, y3, none]) (fun H8 e8 => ⟨Ex.refl _, y1, y2, none, rfl⟩) (fun _ _ _ _ h => h.1) ?_ ?_
    · rintro H8 i r v1 v2 σ H' e8 hr rv1 rv2 ⟨e', y1, y2, y3, rfl⟩
      obtain ⟨b, hb, ht⟩ := mk segs segP segs_ok i r hr
      rw [hb] at rv2
      cases rv2
      exact s_when (b := false) (et_not (a := true) (et_B (ev_cal (ea_cons (ev_cal (ea_cons (ev_v rfl) ea_nil) fun H9 e9 => ⟨v1, r.1, rfl, rv1.mono e9, ht⟩) (ea_cons (ev_v rfl) ea_nil)) fun H9 e9 => ⟨_, _, .bl b, .bl b, rfl, .bl _, .bl _, trivial, Nat.zero_lt_one, by rw [sameD_refl]⟩))) (fun z => nomatch z) fun _ H9 e9 => ⟨e'.trans e9, _, _, _, rfl⟩
    rintro H10 σ H11 e10 ⟨e11, y1, y2, y3, rfl⟩
    refine q_forD2 (rows := paths) (ed_lst (by show EvAR _ _ _ [.tup [.str [97, 47, 98], .bl true], .tup [.str [97, 47, 47, 98], .bl false], .tup [.str [], .bl false], .tup [.str [47, 97], .bl false], .tup [.str [97, 47], .bl false], .tup [.str [97, 47, 46, 46], .bl false], .tup [.str [98], .bl true]]; repeat' (first | exact er_nil | refine er_cons ?_ ?_ | refine ed_tup ?_ (by decide) | refine ed_lst ?_ (by decide) | exact evd_v ev_c (.bl _) | exact evd_v ev_c .non | exact evd_v ev_c (.int _) | exact evd_v (ev_cs _ (by decide +kernel)) (.str _) | exact evd_v (ev_op (ev_cs [120] (by decide +kernel)) ev_c (rv_mulSn (by unfold MulOk; decide) (by decide +kernel))) (.str _))) (by decide)) (fun H1 i σ H' => Ex H1 H' ∧ ∃ y2 y4, σ = [some (V.ref a), some (.ref p), some (.int (n : Int)), some (.str (tx l)), none, some v, some (.ref pd), y1, y2, y3, y4]) (fun H8 e8 => ⟨Ex.refl _, y2, none, rfl⟩) (fun _ _ _ _ h => h.1) ?_ ?_
    · rintro H8 i r v1 v2 σ H' e8 hr rv1 rv2 ⟨e', y2, y4, rfl⟩
      have h := all_at paths_ok hr
      obtain ⟨dr, rr⟩ := r
      unfold pathB at h
      cases rv1 with
      | str lp =>
        rw [Bool.and_eq_true, Bool.and_eq_true, Bool.and_eq_true, List.all_eq_true] at h
        obtain ⟨⟨⟨h1, h2⟩, h3⟩, h4⟩ := h
        have hb := same_bl h4
        subst hb
        cases rv2
        exact s_when (b := false) (et_not (a := true) (et_B (ev_cal (ea_cons (ev_cal (ea_cons (ev_v rfl) ea_nil) fun H9 e9 => ⟨lp, rfl, of_decide_eq_true h1, fun s hs => of_decide_eq_true (h2 s hs), of_decide_eq_true h3, rfl⟩) (ea_cons (ev_v rfl) ea_nil)) fun H9 e9 => ⟨_, _, .bl (pathP lp), .bl (pathP lp), rfl, .bl _, .bl _, trivial, Nat.zero_lt_one, by rw [sameD_refl]⟩))) (fun z => nomatch z) fun _ H9 e9 => ⟨e'.trans e9, _, _, rfl⟩
      | _ => exact nomatch h
    rintro H12 σ H13 e12 ⟨e13, y2, y4, rfl⟩
    have hn1 : ∀ {σ : L2.St} {H' : Hp} {te : TE} (l : List Nat) (b : Bool), Ev te σ H' (.str (tx l)) → l.length ≤ 1000 → nameP l = b → Ev (tCall (spV (ok_is nameP)) [] E0 (tCons te tNil)) σ H' (.bl b) := fun l b h hl hb => ev_cal (ea_cons h ea_nil) fun H6 e6 => ⟨_, .str l, rfl, .str _, .inl ⟨l, rfl, hl, by rw [hb]⟩⟩
    exact s_ret (ev_is (ev_andV (a := true) (ev_is (ev_isBA (hn1 ([65, 66, 67, 68, 69, 70, 48, 49, 50, 51, 52, 53, 54, 55, 56, 57, 65, 66, 67, 68]) false (ev_cs _ (by decide +kernel)) (by decide) (by decide +kernel))) rfl) fun _ => ev_andV (a := true) (b := true) (ev_is (ev_isBA (hn1 (List.replicate 19 48) false (ev_op (ev_cs [48] (by decide +kernel)) ev_c (rv_mulSn (by unfold MulOk; decide) (by decide +kernel))) (by decide) (by decide +kernel))) rfl)
      fun _ => ev_is (ev_isBA (hn1 (List.replicate 20 48) true (ev_op (ev_cs [48] (by decide +kernel)) ev_c (rv_mulSn (by unfold MulOk; decide) (by decide +kernel))) (by decide) (by decide +kernel))) rfl) rfl) fun H14 e14 => q H14
end
end K01

set_option Elab.async false
set_option linter.all false
set_option maxRecDepth 100000
set_option maxHeartbeats 4000000
namespace K01
open PySem PySem.Spec PyProof.Rows L2 Evl My
theorem all_mk {l : PySem.W.OpenLaw} {w : World} {K : PySem.W.Frag} {h : Heap} {mg : Str → Option Value} {fa : Addr} (X : K.In h) (G : h.Ns mainGlobals mg) (hfa : mg "law" = some (.ref fa))
    (h_law_mixed : HasF K "_law_mixed" s_law_mixed)
    (h_law_rest : HasF K "_law_rest" s_law_rest)
    (h_law_pool : HasF K "_law_pool" s_law_pool)
    (h_law_draw : HasF K "_law_draw" s_law_draw)
    (h_law_pick : HasF K "_law_pick" s_law_pick)
    (h_padded : HasF K "padded" s_padded)
    (h_spread : HasF K "spread" s_spread)
    (h_mixed : HasF K "mixed" s_mixed)
    (h_sha : HasF K "sha" s_sha)
    (h_law_same : HasF K "_law_same" s_law_same)
    (h_law_value : HasF K "_law_value" s_law_value)
    (h_number_told : HasF K "number_told" s_number_told)
    (h_text_told : HasF K "text_told" s_text_told)
    (h_told_at : HasF K "told_at" s_told_at)
    (h_told : HasF K "told" s_told)
    (h_law_primes : HasF K "_law_primes" s_law_primes)
    (h_law_root : HasF K "_law_root" s_law_root)
    (h_law_xor : HasF K "_law_xor" s_law_xor)
    (h_law_and : HasF K "_law_and" s_law_and)
    (h_law_turn : HasF K "_law_turn" s_law_turn)
    (h_law_shift : HasF K "_law_shift" s_law_shift)
    (h_law_three : HasF K "_law_three" s_law_three)
    (h_law_block : HasF K "_law_block" s_law_block)
    (h_law_sha : HasF K "_law_sha" s_law_sha)
    (h_name_of : HasF K "name_of" s_name_of)
    (h_made_of : HasF K "made_of" s_made_of)
    (h_is_name : HasF K "is_name" s_is_name)
    (h_is_word : HasF K "is_word" s_is_word)
    (h_is_segment : HasF K "is_segment" s_is_segment)
    (h_is_path : HasF K "is_path" s_is_path)
    (h_law : HasF K "law" s_law)
    (z_len : PySem.W.nsIn K mainGlobals "len" = some none)
    (z_list : PySem.W.nsIn K mainGlobals "list" = some none)
    (z_int : PySem.W.nsIn K mainGlobals "int" = some none)
    (z_isinstance : PySem.W.nsIn K mainGlobals "isinstance" = some none)
    (z_range : PySem.W.nsIn K mainGlobals "range" = some none)
    (z_zip : PySem.W.nsIn K mainGlobals "zip" = some none)
    (z_all : PySem.W.nsIn K mainGlobals "all" = some none)
    (z_any : PySem.W.nsIn K mainGlobals "any" = some none)
    (z_tuple : PySem.W.nsIn K mainGlobals "tuple" = some none)
    (z_str : PySem.W.nsIn K mainGlobals "str" = some none)
    (z_dict : PySem.W.nsIn K mainGlobals "dict" = some none)
    (z_bool : PySem.W.nsIn K mainGlobals "bool" = some none)
    (z_sorted : PySem.W.nsIn K mainGlobals "sorted" = some none)
    (z_min : PySem.W.nsIn K mainGlobals "min" = some none)
    (z_max : PySem.W.nsIn K mainGlobals "max" = some none)
    (z_set : PySem.W.nsIn K mainGlobals "set" = some none)
    (z_enumerate : PySem.W.nsIn K mainGlobals "enumerate" = some none)
    (z_sum : PySem.W.nsIn K mainGlobals "sum" = some none)
    (i_MASK : HasI K "MASK" 4294967295)
    (i_MOST_TUPLES : HasI K "MOST_TUPLES" 40)
    (i_NAME_DIGITS : HasI K "NAME_DIGITS" 20)
    (i_LONGEST_WORD : HasI K "LONGEST_WORD" 12)
    (i_LONGEST_SEGMENT : HasI K "LONGEST_SEGMENT" 20)
    (s_SIGNS : HasS K "SIGNS" signsS)
    (s_DIGITS : HasS K "DIGITS" (tx digL))
    (s_LETTERS : HasS K "LETTERS" (tx letL))
    (t_FIRST : HasT K "FIRST" (nats firstC.list))
    (t_TURNS : HasT K "TURNS" (nats turnsC)) :
    ∃ fd : FuncData, (∀ (s : Shared) (v : Value), BindsTo s fd ⟨[v], []⟩ [("script", v)]) ∧ ∀ base : Heap, K.In base → base.Ns mainGlobals mg → FnOk l.prog w K mg base CX0 9 fa fd ["script"] (sp_law K) := by
  have N : Nb mg := ⟨PySem.W.mg_none_of X G z_len, PySem.W.mg_none_of X G z_list, PySem.W.mg_none_of X G z_int, PySem.W.mg_none_of X G z_isinstance, PySem.W.mg_none_of X G z_range, PySem.W.mg_none_of X G z_zip, PySem.W.mg_none_of X G z_all, PySem.W.mg_none_of X G z_any, PySem.W.mg_none_of X G z_tuple, PySem.W.mg_none_of X G z_str, PySem.W.mg_none_of X G z_dict, PySem.W.mg_none_of X G z_bool, PySem.W.mg_none_of X G z_sorted, PySem.W.mg_none_of X G z_min, PySem.W.mg_none_of X G z_max, PySem.W.mg_none_of X G z_set, PySem.W.mg_none_of X G z_enumerate, PySem.W.mg_none_of X G z_sum⟩
  have g_MASK := i_MASK.gi X G
  have g_MOST_TUPLES := i_MOST_TUPLES.gi X G
  have g_NAME_DIGITS := i_NAME_DIGITS.gi X G
  have g_LONGEST_WORD := i_LONGEST_WORD.gi X G
  have g_LONGEST_SEGMENT := i_LONGEST_SEGMENT.gi X G
  have g_SIGNS := s_SIGNS.gs X G
  have g_DIGITS := s_DIGITS.gs X G
  have g_LETTERS := s_LETTERS.gs X G
  have g_FIRST := t_FIRST.gt X G
  have g_TURNS := t_TURNS.gt X G
  obtain ⟨f_law_mixed, fd_law_mixed, F_law_mixed, m_law_mixed⟩ := h_law_mixed.get X G
  obtain ⟨f_law_rest, fd_law_rest, F_law_rest, m_law_rest⟩ := h_law_rest.get X G
  obtain ⟨f_law_pool, fd_law_pool, F_law_pool, m_law_pool⟩ := h_law_pool.get X G
  obtain ⟨f_law_draw, fd_law_draw, F_law_draw, m_law_draw⟩ := h_law_draw.get X G
  obtain ⟨f_law_pick, fd_law_pick, F_law_pick, m_law_pick⟩ := h_law_pick.get X G
  obtain ⟨f_padded, fd_padded, F_padded, m_padded⟩ := h_padded.get X G
  obtain ⟨f_spread, fd_spread, F_spread, m_spread⟩ := h_spread.get X G
  obtain ⟨f_mixed, fd_mixed, F_mixed, m_mixed⟩ := h_mixed.get X G
  obtain ⟨f_sha, fd_sha, F_sha, m_sha⟩ := h_sha.get X G
  obtain ⟨f_law_same, fd_law_same, F_law_same, m_law_same⟩ := h_law_same.get X G
  obtain ⟨f_law_value, fd_law_value, F_law_value, m_law_value⟩ := h_law_value.get X G
  obtain ⟨f_number_told, fd_number_told, F_number_told, m_number_told⟩ := h_number_told.get X G
  obtain ⟨f_text_told, fd_text_told, F_text_told, m_text_told⟩ := h_text_told.get X G
  obtain ⟨f_told_at, fd_told_at, F_told_at, m_told_at⟩ := h_told_at.get X G
  obtain ⟨f_told, fd_told, F_told, m_told⟩ := h_told.get X G
  obtain ⟨f_law_primes, fd_law_primes, F_law_primes, m_law_primes⟩ := h_law_primes.get X G
  obtain ⟨f_law_root, fd_law_root, F_law_root, m_law_root⟩ := h_law_root.get X G
  obtain ⟨f_law_xor, fd_law_xor, F_law_xor, m_law_xor⟩ := h_law_xor.get X G
  obtain ⟨f_law_and, fd_law_and, F_law_and, m_law_and⟩ := h_law_and.get X G
  obtain ⟨f_law_turn, fd_law_turn, F_law_turn, m_law_turn⟩ := h_law_turn.get X G
  obtain ⟨f_law_shift, fd_law_shift, F_law_shift, m_law_shift⟩ := h_law_shift.get X G
  obtain ⟨f_law_three, fd_law_three, F_law_three, m_law_three⟩ := h_law_three.get X G
  obtain ⟨f_law_block, fd_law_block, F_law_block, m_law_block⟩ := h_law_block.get X G
  obtain ⟨f_law_sha, fd_law_sha, F_law_sha, m_law_sha⟩ := h_law_sha.get X G
  obtain ⟨f_name_of, fd_name_of, F_name_of, m_name_of⟩ := h_name_of.get X G
  obtain ⟨f_made_of, fd_made_of, F_made_of, m_made_of⟩ := h_made_of.get X G
  obtain ⟨f_is_name, fd_is_name, F_is_name, m_is_name⟩ := h_is_name.get X G
  obtain ⟨f_is_word, fd_is_word, F_is_word, m_is_word⟩ := h_is_word.get X G
  obtain ⟨f_is_segment, fd_is_segment, F_is_segment, m_is_segment⟩ := h_is_segment.get X G
  obtain ⟨f_is_path, fd_is_path, F_is_path, m_is_path⟩ := h_is_path.get X G
  obtain ⟨f0, oc, od, kV, dc, pm, an, cd, ct, sl, a0, l0, c0, k0⟩ := h_law
  have e := hfa.symm.trans (PySem.W.mg_of X G a0)
  cases e
  have F_law := fun_mk (st := s_law) l0 c0 k0
  refine ⟨PySem.W.fnOf "law" "law" (defArgs s_law) (defBody s_law) (defScope s_law) .none kV dc pm an cd ct, fun s v => .of_eq rfl, fun base _ _ => ?_⟩
  have C_law_mixed : Cal l.prog w K mg base 1 "_law_mixed" ["number", "place"] (spV ok_mixed_) := ⟨f_law_mixed, fd_law_mixed, fn_mixed_ (k := 0) F_law_mixed N, F_law_mixed.binds (ps := ["number", "place"]) (fun _ _ _ _ _ _ us hl => match us, hl with | [_, _], _ => rfl), F_law_mixed.kp, m_law_mixed⟩
  have C_law_rest : Cal l.prog w K mg base 2 "_law_rest" ["script", "place", "fills"] (spV (ok_rest_ K)) := ⟨f_law_rest, fd_law_rest, fn_rest_ (k := 1) F_law_rest N C_law_mixed, F_law_rest.binds (ps := ["script", "place", "fills"]) (fun _ _ _ _ _ _ us hl => match us, hl with | [_, _, _], _ => rfl), F_law_rest.kp, m_law_rest⟩
  have C_law_pool : Cal l.prog w K mg base 3 "_law_pool" ["script"] (spL (ok_pool_ K)) := ⟨f_law_pool, fd_law_pool, fn_pool_ (k := 2) F_law_pool N C_law_rest, F_law_pool.binds (ps := ["script"]) (fun _ _ _ _ _ _ us hl => match us, hl with | [_], _ => rfl), F_law_pool.kp, m_law_pool⟩
  have C_law_draw : Cal l.prog w K mg base 3 "_law_draw" ["pool", "limit"] (sp_draw K) := ⟨f_law_draw, fd_law_draw, fn_draw (k := 2) F_law_draw N C_law_rest, F_law_draw.binds (ps := ["pool", "limit"]) (fun _ _ _ _ _ _ us hl => match us, hl with | [_, _], _ => rfl), F_law_draw.kp, m_law_draw⟩
  have C_law_pick : Cal l.prog w K mg base 4 "_law_pick" ["pool", "options"] (sp_pick K) := ⟨f_law_pick, fd_law_pick, fn_pick (k := 3) F_law_pick N C_law_draw, F_law_pick.binds (ps := ["pool", "options"]) (fun _ _ _ _ _ _ us hl => match us, hl with | [_, _], _ => rfl), F_law_pick.kp, m_law_pick⟩
  have C_padded : Cal l.prog w K mg base 1 "padded" ["data"] (spL ok_padded) := ⟨f_padded, fd_padded, fn_padded (k := 0) F_padded N, F_padded.binds (ps := ["data"]) (fun _ _ _ _ _ _ us hl => match us, hl with | [_], _ => rfl), F_padded.kp, m_padded⟩
  have C_spread : Cal l.prog w K mg base 1 "spread" ["block"] (spL (ok_spread K)) := ⟨f_spread, fd_spread, fn_spread (k := 0) F_spread N g_MASK, F_spread.binds (ps := ["block"]) (fun _ _ _ _ _ _ us hl => match us, hl with | [_], _ => rfl), F_spread.kp, m_spread⟩
  have C_mixed : Cal l.prog w K mg base 1 "mixed" ["state", "words"] (spL (ok_mixed K)) := ⟨f_mixed, fd_mixed, fn_mixed (k := 0) F_mixed N g_MASK g_TURNS, F_mixed.binds (ps := ["state", "words"]) (fun _ _ _ _ _ _ us hl => match us, hl with | [_, _], _ => rfl), F_mixed.kp, m_mixed⟩
  have C_sha : Cal l.prog w K mg base 2 "sha" ["data"] (spV ok_sha) := ⟨f_sha, fd_sha, fn_sha (k := 1) F_sha N g_FIRST C_padded C_spread C_mixed, F_sha.binds (ps := ["data"]) (fun _ _ _ _ _ _ us hl => match us, hl with | [_], _ => rfl), F_sha.kp, m_sha⟩
  have C_law_same := cal_same (P := l.prog) (w := w) (base := base) (k := 0) F_law_same (F_law_same.binds (ps := ["actual", "due"]) (fun _ _ _ _ _ _ us hl => match us, hl with | [_, _], _ => rfl)) F_law_same.kp m_law_same N 1
  have C_law_value := cal_value (P := l.prog) (w := w) (base := base) (k := 4) F_law_value (F_law_value.binds (ps := ["pool", "deep"]) (fun _ _ _ _ _ _ us hl => match us, hl with | [_, _], _ => rfl)) F_law_value.kp m_law_value N (C_law_draw.mono (by decide)) C_law_pick 3
  have C_number_told : Cal l.prog w K mg base 1 "number_told" ["number"] (spL ok_number_told) := ⟨f_number_told, fd_number_told, fn_number_told (k := 0) F_number_told N, F_number_told.binds (ps := ["number"]) (fun _ _ _ _ _ _ us hl => match us, hl with | [_], _ => rfl), F_number_told.kp, m_number_told⟩
  have C_text_told : Cal l.prog w K mg base 2 "text_told" ["text"] (spL ok_text_told) := ⟨f_text_told, fd_text_told, fn_text_told (k := 1) F_text_told N g_SIGNS C_number_told, F_text_told.binds (ps := ["text"]) (fun _ _ _ _ _ _ us hl => match us, hl with | [_], _ => rfl), F_text_told.kp, m_text_told⟩
  have C_told_at := cal_told_at (P := l.prog) (w := w) (base := base) (k := 2) F_told_at (F_told_at.binds (ps := ["value", "tuples"]) (fun _ _ _ _ _ _ us hl => match us, hl with | [_, _], _ => rfl)) F_told_at.kp m_told_at N g_MOST_TUPLES (C_number_told.mono (by decide)) C_text_told 4
  have C_told : Cal l.prog w K mg base 7 "told" ["value"] (spL ok_told) := ⟨f_told, fd_told, fn_told (k := 6) F_told N C_told_at, F_told.binds (ps := ["value"]) (fun _ _ _ _ _ _ us hl => match us, hl with | [_], _ => rfl), F_told.kp, m_told⟩
  have C_law_primes : Cal l.prog w K mg base 1 "_law_primes" [] (spL ok_primes_) := ⟨f_law_primes, fd_law_primes, fn_primes (k := 0) F_law_primes N, F_law_primes.binds (ps := []) (fun _ _ _ _ _ _ us hl => match us, hl with | [], _ => rfl), F_law_primes.kp, m_law_primes⟩
  have C_law_root : Cal l.prog w K mg base 1 "_law_root" ["number", "cube"] (spV ok_root_) := ⟨f_law_root, fd_law_root, fn_root (k := 0) F_law_root N, F_law_root.binds (ps := ["number", "cube"]) (fun _ _ _ _ _ _ us hl => match us, hl with | [_, _], _ => rfl), F_law_root.kp, m_law_root⟩
  have C_law_xor : Cal l.prog w K mg base 1 "_law_xor" ["one", "other"] (spV ok_xor_) := ⟨f_law_xor, fd_law_xor, fn_xor (k := 0) F_law_xor N, F_law_xor.binds (ps := ["one", "other"]) (fun _ _ _ _ _ _ us hl => match us, hl with | [_, _], _ => rfl), F_law_xor.kp, m_law_xor⟩
  have C_law_and : Cal l.prog w K mg base 2 "_law_and" ["one", "other"] (spV ok_and_) := ⟨f_law_and, fd_law_and, fn_and (k := 1) F_law_and N C_law_xor, F_law_and.binds (ps := ["one", "other"]) (fun _ _ _ _ _ _ us hl => match us, hl with | [_, _], _ => rfl), F_law_and.kp, m_law_and⟩
  have C_law_turn : Cal l.prog w K mg base 1 "_law_turn" ["word", "bits"] (spV ok_turn_) := ⟨f_law_turn, fd_law_turn, fn_turn (k := 0) F_law_turn N, F_law_turn.binds (ps := ["word", "bits"]) (fun _ _ _ _ _ _ us hl => match us, hl with | [_, _], _ => rfl), F_law_turn.kp, m_law_turn⟩
  have C_law_shift : Cal l.prog w K mg base 1 "_law_shift" ["word", "bits"] (spV ok_shift_) := ⟨f_law_shift, fd_law_shift, fn_shift (k := 0) F_law_shift N, F_law_shift.binds (ps := ["word", "bits"]) (fun _ _ _ _ _ _ us hl => match us, hl with | [_, _], _ => rfl), F_law_shift.kp, m_law_shift⟩
  have C_law_three : Cal l.prog w K mg base 2 "_law_three" ["word", "bits"] (spV (ok_three_ K)) := ⟨f_law_three, fd_law_three, fn_three (k := 1) F_law_three N C_law_xor C_law_turn C_law_shift, F_law_three.binds (ps := ["word", "bits"]) (fun _ _ _ _ _ _ us hl => match us, hl with | [_, _], _ => rfl), F_law_three.kp, m_law_three⟩
  have C_law_block : Cal l.prog w K mg base 3 "_law_block" ["state", "block", "turns"] (spL (ok_block_ K)) := ⟨f_law_block, fd_law_block, fn_block (k := 2) F_law_block N (C_law_xor.mono (by decide)) C_law_and C_law_three, F_law_block.binds (ps := ["state", "block", "turns"]) (fun _ _ _ _ _ _ us hl => match us, hl with | [_, _, _], _ => rfl), F_law_block.kp, m_law_block⟩
  have C_law_sha : Cal l.prog w K mg base 4 "_law_sha" ["data"] (spV (ok_lsha_ K)) := ⟨f_law_sha, fd_law_sha, fn_lsha (k := 3) F_law_sha N (C_law_primes.mono (by decide)) (C_law_root.mono (by decide)) C_law_block, F_law_sha.binds (ps := ["data"]) (fun _ _ _ _ _ _ us hl => match us, hl with | [_], _ => rfl), F_law_sha.kp, m_law_sha⟩
  have C_name_of : Cal l.prog w K mg base 8 "name_of" ["value"] (spV ok_name_of) := ⟨f_name_of, fd_name_of, fn_name_of (k := 7) F_name_of N g_NAME_DIGITS (C_sha.mono (by decide)) C_told, F_name_of.binds (ps := ["value"]) (fun _ _ _ _ _ _ us hl => match us, hl with | [_], _ => rfl), F_name_of.kp, m_name_of⟩
  have C_made_of : Cal l.prog w K mg base 1 "made_of" ["value", "signs", "most"] (spV ok_made_of) := ⟨f_made_of, fd_made_of, fn_made_of (k := 0) F_made_of N, F_made_of.binds (ps := ["value", "signs", "most"]) (fun _ _ _ _ _ _ us hl => match us, hl with | [_, _, _], _ => rfl), F_made_of.kp, m_made_of⟩
  have C_is_name : Cal l.prog w K mg base 2 "is_name" ["value"] (spV (ok_is nameP)) := ⟨f_is_name, fd_is_name, fn_is_name (k := 1) F_is_name N g_DIGITS g_NAME_DIGITS C_made_of, F_is_name.binds (ps := ["value"]) (fun _ _ _ _ _ _ us hl => match us, hl with | [_], _ => rfl), F_is_name.kp, m_is_name⟩
  have C_is_word : Cal l.prog w K mg base 2 "is_word" ["value"] (spV (ok_is wordP)) := ⟨f_is_word, fd_is_word, fn_is_word (k := 1) F_is_word N g_DIGITS g_LETTERS g_LONGEST_WORD C_made_of, F_is_word.binds (ps := ["value"]) (fun _ _ _ _ _ _ us hl => match us, hl with | [_], _ => rfl), F_is_word.kp, m_is_word⟩
  have C_is_segment : Cal l.prog w K mg base 2 "is_segment" ["value"] (spV (ok_is segP)) := ⟨f_is_segment, fd_is_segment, fn_is_segment (k := 1) F_is_segment N g_DIGITS g_LETTERS g_LONGEST_SEGMENT C_made_of, F_is_segment.binds (ps := ["value"]) (fun _ _ _ _ _ _ us hl => match us, hl with | [_], _ => rfl), F_is_segment.kp, m_is_segment⟩
  have C_is_path : Cal l.prog w K mg base 3 "is_path" ["value"] (spV ok_is_path) := ⟨f_is_path, fd_is_path, fn_is_path (k := 2) F_is_path N C_is_segment, F_is_path.binds (ps := ["value"]) (fun _ _ _ _ _ _ us hl => match us, hl with | [_], _ => rfl), F_is_path.kp, m_is_path⟩
  exact fn_law (k := 8) F_law N (C_law_pool.mono (by decide)) (C_law_pick.mono (by decide)) (C_sha.mono (by decide)) (C_law_same.mono (by decide)) (C_law_value.mono (by decide)) (C_told.mono (by decide)) (C_law_sha.mono (by decide)) C_name_of (C_is_name.mono (by decide)) (C_is_word.mono (by decide)) (C_is_segment.mono (by decide)) (C_is_path.mono (by decide))
end K01
open PySem PySem.W PyProof.Rows
set_option maxHeartbeats 0 in
theorem PySem.Challenge.cw_lineage_k01_names_by_sha_holds : PySem.Challenge.rw_lineage_k01_names_by_sha.Holds := by
  w_on; o_law; k_head; (case hw => w_witness2)
  k_fill
  refine L2.walk_of (l := PySem.Challenge.rw_lineage_k01_names_by_sha) (n := 63) (k := 9) (x := "script") (CX := fun _ => L2.CX0) (sp := fun w => K01.sp_law _) rfl (by decide) rfl ⟨rfl, by decide, by decide⟩ (fun w h Y => PySem.W.kIn_of Y) ?F (fun _ _ a ns hl _ hS => ⟨a, ns, rfl, hS, fun _ => rfl⟩) (fun _ _ _ _ _ h => h)
  case F =>
    intro w mg fa h KX G hmg
    refine' K01.all_mk KX G hmg ?q0 ?q1 ?q2 ?q3 ?q4 ?q5 ?q6 ?q7 ?q8 ?q9 ?q10 ?q11 ?q12 ?q13 ?q14 ?q15 ?q16 ?q17 ?q18 ?q19 ?q20 ?q21 ?q22 ?q23 ?q24 ?q25 ?q26 ?q27 ?q28 ?q29 ?q30 ?q31 ?q32 ?q33 ?q34 ?q35 ?q36 ?q37 ?q38 ?q39 ?q40 ?q41 ?q42 ?q43 ?q44 ?q45 ?q46 ?q47 ?q48 ?q49 ?q50 ?q51 ?q52 ?q53 ?q54 ?q55 ?q56 ?q57 ?q58
    case q0 => (refine' My.HasF.mk' ?a ?l ?c ?k; (case a => k_is); (case l => k_is); (case c => k_is); (case k => k_is))
    case q1 => (refine' My.HasF.mk' ?a ?l ?c ?k; (case a => k_is); (case l => k_is); (case c => k_is); (case k => k_is))
    case q2 => (refine' My.HasF.mk' ?a ?l ?c ?k; (case a => k_is); (case l => k_is); (case c => k_is); (case k => k_is))
    case q3 => (refine' My.HasF.mk' ?a ?l ?c ?k; (case a => k_is); (case l => k_is); (case c => k_is); (case k => k_is))
    case q4 => (refine' My.HasF.mk' ?a ?l ?c ?k; (case a => k_is); (case l => k_is); (case c => k_is); (case k => k_is))
    case q5 => (refine' My.HasF.mk' ?a ?l ?c ?k; (case a => k_is); (case l => k_is); (case c => k_is); (case k => k_is))
    case q6 => (refine' My.HasF.mk' ?a ?l ?c ?k; (case a => k_is); (case l => k_is); (case c => k_is); (case k => k_is))
    case q7 => (refine' My.HasF.mk' ?a ?l ?c ?k; (case a => k_is); (case l => k_is); (case c => k_is); (case k => k_is))
    case q8 => (refine' My.HasF.mk' ?a ?l ?c ?k; (case a => k_is); (case l => k_is); (case c => k_is); (case k => k_is))
    case q9 => (refine' My.HasF.mk' ?a ?l ?c ?k; (case a => k_is); (case l => k_is); (case c => k_is); (case k => k_is))
    case q10 => (refine' My.HasF.mk' ?a ?l ?c ?k; (case a => k_is); (case l => k_is); (case c => k_is); (case k => k_is))
    case q11 => (refine' My.HasF.mk' ?a ?l ?c ?k; (case a => k_is); (case l => k_is); (case c => k_is); (case k => k_is))
    case q12 => (refine' My.HasF.mk' ?a ?l ?c ?k; (case a => k_is); (case l => k_is); (case c => k_is); (case k => k_is))
    case q13 => (refine' My.HasF.mk' ?a ?l ?c ?k; (case a => k_is); (case l => k_is); (case c => k_is); (case k => k_is))
    case q14 => (refine' My.HasF.mk' ?a ?l ?c ?k; (case a => k_is); (case l => k_is); (case c => k_is); (case k => k_is))
    case q15 => (refine' My.HasF.mk' ?a ?l ?c ?k; (case a => k_is); (case l => k_is); (case c => k_is); (case k => k_is))
    case q16 => (refine' My.HasF.mk' ?a ?l ?c ?k; (case a => k_is); (case l => k_is); (case c => k_is); (case k => k_is))
    case q17 => (refine' My.HasF.mk' ?a ?l ?c ?k; (case a => k_is); (case l => k_is); (case c => k_is); (case k => k_is))
    case q18 => (refine' My.HasF.mk' ?a ?l ?c ?k; (case a => k_is); (case l => k_is); (case c => k_is); (case k => k_is))
    case q19 => (refine' My.HasF.mk' ?a ?l ?c ?k; (case a => k_is); (case l => k_is); (case c => k_is); (case k => k_is))
    case q20 => (refine' My.HasF.mk' ?a ?l ?c ?k; (case a => k_is); (case l => k_is); (case c => k_is); (case k => k_is))
    case q21 => (refine' My.HasF.mk' ?a ?l ?c ?k; (case a => k_is); (case l => k_is); (case c => k_is); (case k => k_is))
    case q22 => (refine' My.HasF.mk' ?a ?l ?c ?k; (case a => k_is); (case l => k_is); (case c => k_is); (case k => k_is))
    case q23 => (refine' My.HasF.mk' ?a ?l ?c ?k; (case a => k_is); (case l => k_is); (case c => k_is); (case k => k_is))
    case q24 => (refine' My.HasF.mk' ?a ?l ?c ?k; (case a => k_is); (case l => k_is); (case c => k_is); (case k => k_is))
    case q25 => (refine' My.HasF.mk' ?a ?l ?c ?k; (case a => k_is); (case l => k_is); (case c => k_is); (case k => k_is))
    case q26 => (refine' My.HasF.mk' ?a ?l ?c ?k; (case a => k_is); (case l => k_is); (case c => k_is); (case k => k_is))
    case q27 => (refine' My.HasF.mk' ?a ?l ?c ?k; (case a => k_is); (case l => k_is); (case c => k_is); (case k => k_is))
    case q28 => (refine' My.HasF.mk' ?a ?l ?c ?k; (case a => k_is); (case l => k_is); (case c => k_is); (case k => k_is))
    case q29 => (refine' My.HasF.mk' ?a ?l ?c ?k; (case a => k_is); (case l => k_is); (case c => k_is); (case k => k_is))
    case q30 => (refine' My.HasF.mk' ?a ?l ?c ?k; (case a => k_is); (case l => k_is); (case c => k_is); (case k => k_is))
    case q31 => k_is
    case q32 => k_is
    case q33 => k_is
    case q34 => k_is
    case q35 => k_is
    case q36 => k_is
    case q37 => k_is
    case q38 => k_is
    case q39 => k_is
    case q40 => k_is
    case q41 => k_is
    case q42 => k_is
    case q43 => k_is
    case q44 => k_is
    case q45 => k_is
    case q46 => k_is
    case q47 => k_is
    case q48 => k_is
    case q49 => (refine' My.HasI.mk' ?a; (case a => k_is))
    case q50 => (refine' My.HasI.mk' ?a; (case a => k_is))
    case q51 => (refine' My.HasI.mk' ?a; (case a => k_is))
    case q52 => (refine' My.HasI.mk' ?a; (case a => k_is))
    case q53 => (refine' My.HasI.mk' ?a; (case a => k_is))
    case q54 => (refine' My.HasS.mk' ?a; (case a => k_is))
    case q55 => (refine' My.HasS.mk' ?a; (case a => k_is))
    case q56 => (refine' My.HasS.mk' ?a; (case a => k_is))
    case q57 => (refine' My.HasT.mk' ?a ?l ?z ?v; (case a => k_is); (case l => k_is); (case z => (first | decide | (show _ ≤ _; decide))); (case v => (repeat' (first | exact .nil | refine .cons ⟨_, rfl⟩ ?_))))
    case q58 => (refine' My.HasT.mk' ?a ?l ?z ?v; (case a => k_is); (case l => k_is); (case z => (first | decide | (show _ ≤ _; decide))); (case v => (repeat' (first | exact .nil | refine .cons ⟨_, rfl⟩ ?_))))

